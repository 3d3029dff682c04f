/- For every input the law TopSharedFlows returns true and leaves its argument as it was; no conditions. -/
import Derived.Test.YtiecagflhhmfnaaDoorQ
import Derived.Test.YtiecagflhhmfnaaDoorP
import Derived.Test.YtiecagflhhmfnaaDoorR
import Derived.Test.YtiecagflhhmfnaaDoorTie
import Derived.ProofKit
import Derived.Shelf.Lay
import Derived.Lay
import Derived.LaidOnce
import Derived.SevenTiedAt
import Derived.Deep.LoopGhost
import Derived.WalkKit
import Derived.WalkSpells
import Derived.Test.YtiecagflhhmfnaaDoorCards

namespace Go.Sx
open Go Go.Proofs

set_option maxRecDepth 100000 in
set_option maxHeartbeats 1600000 in
theorem top3 (w : World) (Z : Nat → Prop) (cs : Array Value) (hcs : cs.size = 9) (hZ : ∀ b, Z b → b < w.heap.size) (hrd : RdV Z w d27 (fun i => cs[i]?) 0) :
    Calls Tryd.prog 3 #[.agg cs] w fun e w' => e = .returned (.bool true) ∧ w.grownBy w' none := by
  obtain ⟨v0, v1, v2, v3, v4, v5, v6, v7, v8, rfl⟩ : ∃ v0 v1 v2 v3 v4 v5 v6 v7 v8, cs = #[v0, v1, v2, v3, v4, v5, v6, v7, v8] := by
    rcases cs with ⟨l⟩
    match l, hcs with
    | [v0, v1, v2, v3, v4, v5, v6, v7, v8], _ => exact ⟨v0, v1, v2, v3, v4, v5, v6, v7, v8, rfl⟩
  have hw1 := alloc_size w (.cells #[v0, v1, v2, v3, v4, v5, v6, v7, v8] 27)
  have hg2 := grown_trans (grown_alloc w (.cells #[v0, v1, v2, v3, v4, v5, v6, v7, v8] 27)) (grown_alloc (w.alloc (.cells #[v0, v1, v2, v3, v4, v5, v6, v7, v8] 27)) (.cells #[.func (.func 14) #[] #[]] 40))
  have hs2 := alloc_size (w.alloc (.cells #[v0, v1, v2, v3, v4, v5, v6, v7, v8] 27)) (.cells #[.func (.func 14) #[] #[]] 40)
  have hb2 : ((w.alloc (.cells #[v0, v1, v2, v3, v4, v5, v6, v7, v8] 27)).alloc (.cells #[.func (.func 14) #[] #[]] 40)).heap[w.heap.size + 1]? = some (.cells #[.func (.func 14) #[] #[]] 40 (0, 0)) := by rw [alloc_get, if_pos hw1.symm]
  have hap := apart11 ((w.alloc (.cells #[v0, v1, v2, v3, v4, v5, v6, v7, v8] 27)).alloc (.cells #[.func (.func 14) #[] #[]] 40)) Z #[v0, v1, v2, v3, v4, v5, v6, v7, v8] (.slice (some ⟨w.heap.size + 1, 0, none⟩) 1 1) [14] rfl
    (fun b hb => by have := hZ b hb; omega) (hrd.same (fun b hb => hg2.block b (hZ b hb) (by simp)) d27)
    ⟨w.heap.size + 1, 1, rfl, by omega, fun i f h => by
      rw [cell?_blk hb2]
      match i, h with
      | 0, h => cases h; rfl⟩
    (fun f hf => by
      simp only [List.mem_singleton] at hf
      subst hf
      exact ⟨call14, by kernel_rfl⟩) (by simp)
  go_enter Tryd.func3, Tryd.ntmps3
  go_wp2_with (first
    | (refine hap.mono ?_
       clear hap
       rintro e w3 ⟨rfl, hg3⟩)
    | (refine (rings18 _).mono ?_
       rintro e w4 ⟨rfl, hg4⟩))
  go_ret
  exact ⟨rfl, grown_trans (grown_trans hg2 hg3) hg4⟩

end Go.Sx

namespace Go.Sx
open Go Go.Proofs
open Go.ChangeShapes Go.WideShapes Go.ChangeAt Go.RowKit
open Go.Proofs.YtiecagflhhmfnaaDoor

theorem keptBut_of_grown {w w' : World} (h : w.grownBy w' none) (may : MemPlace → Prop) : w.keptBut w' may := by
  refine ⟨h.os, h.output, fun i hi => ?_⟩
  rw [h.block i hi (by simp)]
  have : ∃ o, w.heap[i]? = some o := ⟨w.heap[i], Array.getElem?_eq_getElem hi⟩
  obtain ⟨o, ho⟩ := this
  rw [ho]
  cases o with
  | cells c t fr => exact ⟨rfl, rfl, rfl, fun _ _ => rfl⟩
  | map es clock => exact .inr ⟨rfl, rfl⟩
  | _ => rfl

theorem tryd_own : ownKnob Tryd.prog.godebug = none := by kernel_rfl
theorem tryd_laidOut : laidOutB Tryd.prog = true := by kernel_rfl
theorem tryd_maps : mapsRowed Tryd.prog = true := by kernel_rfl
theorem tryd_rows : sliceCellsB Tryd.prog = true := by kernel_rfl

theorem tryd_sz {t e : TypeId} (ht : t < Tryd.prog.types.size) (hu : Tryd.prog.underlying t = some (.slice e)) : 0 < Tryd.prog.cellsOf e := sliceCells_ok tryd_rows ht hu

set_option maxRecDepth 100000 in
theorem lifted3 (os : Os) (started : os.Started) (H : Type) (enc : TypeId × Value → H) :
    ReturnsInHanded {} Tryd.checked os 3 .any (fun w args => (Rows.topSharedFlowsSpec.pre enc Tryd.prog Tryd.f3 [] false w args ∧ laidMetH Tryd.prog Rows.topSharedFlowsRow.laid w) ∧ sizedMet enc Tryd.prog Tryd.f3 (OpenSpec.ofChange Rows.topSharedFlowsSpec) false w args)
      (Rows.topSharedFlowsSpec.post enc Tryd.prog Tryd.f3 false true false false) := by
  refine returnsInHanded_of_change_and (C := Tryd.checked) (X := fun w _ => laidMetH Tryd.prog Rows.topSharedFlowsRow.laid w) (fun _ _ _ hh h => h.of_heap hh) tryd_own started (by kernel_rfl) Tryd.func3
    (ChangeSpec.witness_shaped (enc := enc) (C := Tryd.checked) (os := os) (X := fun w _ => laidMetH Tryd.prog Rows.topSharedFlowsRow.laid w) false (World.laidAll Tryd.prog os Rows.topSharedFlowsRow.laid) #[(zeroAt Tryd.prog 27).getD default] 8 (World.laidAll_os _ _ _)
      (World.shaped_of_ZipB (by kernel_rfl) (by kernel_rfl)) (by kernel_rfl) (by kernel_rfl) (by kernel_rfl)
      (by rw [MakeChecks.laidMetH_plain _ _ _ (by kernel_rfl)]; exact laidMet_laidAll _ (by kernel_rfl) (by kernel_rfl))) ?_
  intro W base args ds gs before hval0 hW _ _ _ _
  have hval : ∀ (j : Nat) t v, Tryd.f3.params[j]? = some t → args[j]? = some v → Value.okWide Tryd.prog W .any base t v := hval0
  have hW' := hW
  obtain ⟨p, q, hA0, hV, rfl, hfz, _⟩ := hW
  have hA : DataW.TrodAll enc Tryd.prog W 0 (fun _ => true) true Tryd.f3.params.toList args.toList ds p := hA0
  rw [Tryd.params3] at hA hval
  obtain ⟨v0, d0, rfl, rfl, h0⟩ := trodAll_one hA
  obtain ⟨rfl, rfl⟩ := trodVars_none hV
  simp only [List.append_nil] at hW' hfz
  have hok := hval 0 27 v0 rfl rfl
  have hcs : ∃ cs, v0 = .agg cs ∧ cs.size = 9 := by
    simp only [Value.okWide, Tryd.underlying27] at hok
    obtain ⟨cs, h1, h2, _⟩ := hok
    exact ⟨cs, h1, h2.trans (by kernel_rfl)⟩
  obtain ⟨cs, rfl, hcs⟩ := hcs
  obtain ⟨fuel, htr⟩ := h0
  have hlt := DataW.trod_lt fuel 27 _ _ htr
  have hrd : RdV (fun b => ∃ off, MemPlace.cell b off ∈ p) W d27 (fun i => cs[i]?) 0 := by
    have h1 := trod_rdv (Z := fun b => ∃ off, MemPlace.cell b off ∈ p) 8 fuel d27 27 _ _ _ (by kernel_rfl) htr (fun b off hm => ⟨hfz b off hm, off, hm⟩)
    exact h1.congr d27 fun i _ => by simp [Value.cells]
  refine (top3 W _ cs hcs (fun b ⟨off, hm⟩ => hlt _ hm) hrd).mono fun e W' ⟨he, hg⟩ => ?_
  subst he
  refine ⟨_, rfl, _, _, _, [], p, [], hW', trodAll_mk1 (shut_bool Tryd.underlying4 true), ?_, rfl, keptBut_of_grown hg _, fun h => by cases h⟩
  exact args_stay (kids_rows tryd_laidOut tryd_maps) tryd_sz (fun b hb => hg.block b hb (by simp)) hA (fun t ht => by
    have h27 : Nat.blt 27 Tryd.prog.types.size = true := by kernel_rfl
    have : t = 27 := by simpa using ht
    rw [this]; exact Nat.le_of_ble_eq_true h27) _ (fun x hx => by simpa using DataW.TrodAll.lt hA x hx)


theorem said3 : Rows.TopSharedFlowsSaid :=
  OpenClaim.holds_of_wide 3 Tryd.f3 rfl rfl rfl rfl rfl rfl rfl ⟨rfl, rfl, rfl, rfl, rfl⟩ rfl rfl rfl rfl rfl (by kernel_rfl) Tryd.func3 (by kernel_rfl)
    (of_decide_eq_true (by kernel_rfl)) (by unfold Func.isWrapper; first | (rw [if_pos (by decide +kernel)]; kernel_rfl) | (rw [if_neg (by decide +kernel)]; exact ⟨rfl, rfl⟩))
    (fun os started H enc _ => lifted3 os started H enc)

theorem card3 : Rows.TopSharedFlowsCardSaid :=
  Claim7.holds_tied_plain_at .later [] [.data, .pinned] true (true, "0f0b7de1b324808f4fcb5ed897616b417999e6a9439677bed79f5e4e26f1e337") true said3 (fun _ h => by cases h) (by kernel_rfl) (fun _ h => by cases h) topSharedFlows_row_tie rfl ⟨rfl, rfl⟩ (by kernel_rfl) rfl
    (fun f fn hf hfn => by
      obtain rfl : f = 3 := Option.some.inj ((show Tryd.prog.funcNamed "pointcode/pointcodetop.TopSharedFlows" = some 3 by kernel_rfl).symm.trans hf) |>.symm
      obtain rfl : fn = Tryd.f3 := (Option.some.inj (Tryd.func3.symm.trans hfn)).symm
      exact ⟨by kernel_rfl, fun j t ht => by
        rw [Tryd.params3] at ht
        have hm : t ∈ [27] := by simpa using Array.mem_of_getElem? ht
        have hall : ([27].all fun u => !Tryd.prog.wantsStandIn u) = true := by kernel_rfl
        exact (show Tryd.prog.wantsStandIn t = false by simpa using List.all_eq_true.1 hall t hm)⟩)
    (by kernel_rfl)

end Go.Sx

namespace Go.Proofs.YtiecagflhhmfnaaDoor

theorem flows_card : Rows.TopSharedFlowsCardSaid := Go.Sx.card3

end Go.Proofs.YtiecagflhhmfnaaDoor
