/- For every input the law TopSharedSegments returns true and leaves its argument as it was; no conditions. -/
import Derived.Test.YtiecagflhhmfnaaDoorSegP
import Derived.Test.YtiecagflhhmfnaaDoorSegC
import Derived.Test.YtiecagflhhmfnaaDoorR
import Derived.Test.YtiecagflhhmfnaaDoorProg
import Derived.WalkKit
import Derived.WalkSpells
import Derived.StillTactics
import Derived.OwnWalk
import Derived.Laws.Pointers
import Derived.Deep.RegionLaw
import Derived.Deep.AppendLies
import Derived.Deep.LoopGhost
import Derived.KernelRfl
import Derived.Test.YtiecagflhhmfnaaDoorT

namespace Go.Sx
open Go Go.Proofs

set_option maxRecDepth 100000 in
set_option maxHeartbeats 1600000 in
theorem topL (w : World) (Z : Nat → Prop) (cs : Array Value) (hcs : cs.size = 8) (hZ : ∀ b, Z b → b < w.heap.size) (hrd : RdV Z w dT (fun i => cs[i]?) 0) :
    Calls Tryd.prog 5 #[.agg cs] w fun e w' => e = .returned (.bool true) ∧ w.grownBy w' none := by
  obtain ⟨v0, v1, v2, v3, v4, v5, v6, v7, rfl⟩ : ∃ v0 v1 v2 v3 v4 v5 v6 v7, cs = #[v0, v1, v2, v3, v4, v5, v6, v7] := by
    rcases cs with ⟨l⟩
    match l, hcs with
    | [v0, v1, v2, v3, v4, v5, v6, v7], _ => exact ⟨v0, v1, v2, v3, v4, v5, v6, v7, rfl⟩
  have hw1 := alloc_size w (.cells #[v0, v1, v2, v3, v4, v5, v6, v7] 70)
  have hg2 := grown_trans (grown_alloc w (.cells #[v0, v1, v2, v3, v4, v5, v6, v7] 70)) (grown_alloc (w.alloc (.cells #[v0, v1, v2, v3, v4, v5, v6, v7] 70)) (.cells #[.func (.func 35) #[] #[], .func (.func 39) #[] #[], .func (.func 42) #[] #[]] 80))
  have hs2 := alloc_size (w.alloc (.cells #[v0, v1, v2, v3, v4, v5, v6, v7] 70)) (.cells #[.func (.func 35) #[] #[], .func (.func 39) #[] #[], .func (.func 42) #[] #[]] 80)
  have hb2 : ((w.alloc (.cells #[v0, v1, v2, v3, v4, v5, v6, v7] 70)).alloc (.cells #[.func (.func 35) #[] #[], .func (.func 39) #[] #[], .func (.func 42) #[] #[]] 80)).heap[w.heap.size + 1]? = some (.cells #[.func (.func 35) #[] #[], .func (.func 39) #[] #[], .func (.func 42) #[] #[]] 80 (0, 0)) := by rw [alloc_get, if_pos hw1.symm]
  have hap := apartL ((w.alloc (.cells #[v0, v1, v2, v3, v4, v5, v6, v7] 70)).alloc (.cells #[.func (.func 35) #[] #[], .func (.func 39) #[] #[], .func (.func 42) #[] #[]] 80)) Z #[v0, v1, v2, v3, v4, v5, v6, v7] (.slice (some ⟨w.heap.size + 1, 0, none⟩) 3 3) [35, 39, 42] rfl
    (fun b hb => by have := hZ b hb; omega) (hrd.same (fun b hb => hg2.block b (hZ b hb) (by simp)) dT)
    ⟨w.heap.size + 1, 3, rfl, by omega, fun i f h => by
      rw [cell?_blk hb2]
      match i, h with
      | 0, h => cases h; rfl
      | 1, h => cases h; rfl
      | 2, h => cases h; rfl⟩
    (fun f hf => by
      simp only [List.mem_cons, List.not_mem_nil, or_false] at hf
      rcases hf with rfl | rfl | rfl
      · exact ⟨call35, by kernel_rfl⟩
      · exact ⟨call39, by kernel_rfl⟩
      · exact ⟨call42, by kernel_rfl⟩
    ) (by simp)
  go_enter Tryd.func5, Tryd.ntmps5
  go_wp2_with (first
    | (refine hap.mono ?_
       clear hap
       rintro e w3 ⟨rfl, hg3⟩)
    | (refine (rings18 _).mono ?_
       rintro e w4 ⟨rfl, hg4⟩))
  go_ret
  exact ⟨rfl, grown_trans (grown_trans hg2 hg3) hg4⟩

end Go.Sx

namespace Go.Sx
open Go Go.Proofs

open Go.ChangeShapes Go.WideShapes Go.ChangeAt Go.RowKit
open Go.Proofs.YtiecagflhhmfnaaDoor

set_option maxRecDepth 100000 in
theorem liftedL (os : Os) (started : os.Started) (H : Type) (enc : TypeId × Value → H) :
    ReturnsInHanded {} Tryd.checked os 5 .any (fun w args => (Rows.topSharedSegmentsSpec.pre enc Tryd.prog Tryd.f5 [] false w args ∧ laidMetH Tryd.prog Rows.topSharedSegmentsRow.laid w) ∧ sizedMet enc Tryd.prog Tryd.f5 (OpenSpec.ofChange Rows.topSharedSegmentsSpec) false w args)
      (Rows.topSharedSegmentsSpec.post enc Tryd.prog Tryd.f5 false true false false) := by
  refine returnsInHanded_of_change_and (C := Tryd.checked) (X := fun w _ => laidMetH Tryd.prog Rows.topSharedSegmentsRow.laid w) (fun _ _ _ hh h => h.of_heap hh) seat_own started (by kernel_rfl) Tryd.func5
    (ChangeSpec.witness_shaped (enc := enc) (C := Tryd.checked) (os := os) (X := fun w _ => laidMetH Tryd.prog Rows.topSharedSegmentsRow.laid w) false (World.laidAll Tryd.prog os Rows.topSharedSegmentsRow.laid) #[(zeroAt Tryd.prog 70).getD default] 8 (World.laidAll_os _ _ _)
      (World.shaped_of_ZipB (by kernel_rfl) (by kernel_rfl)) (by kernel_rfl) (by kernel_rfl) (by kernel_rfl)
      (by rw [MakeChecks.laidMetH_plain _ _ _ (by kernel_rfl)]; exact laidMet_laidAll _ (by kernel_rfl) (by kernel_rfl))) ?_
  intro W base args ds gs before hval0 hW _ _ _ _
  have hval : ∀ (j : Nat) t v, Tryd.f5.params[j]? = some t → args[j]? = some v → Value.okWide Tryd.prog W .any base t v := hval0
  have hW' := hW
  obtain ⟨p, q, hA0, hV, rfl, hfz, _⟩ := hW
  have hA : DataW.TrodAll enc Tryd.prog W 0 (fun _ => true) true Tryd.f5.params.toList args.toList ds p := hA0
  rw [Tryd.params5] at hA hval
  obtain ⟨v0, d0, rfl, rfl, h0⟩ := trodAll_one hA
  obtain ⟨rfl, rfl⟩ := trodVars_none hV
  simp only [List.append_nil] at hW' hfz
  have hok := hval 0 70 v0 rfl rfl
  have hcs : ∃ cs, v0 = .agg cs ∧ cs.size = 8 := by
    simp only [Value.okWide, Tryd.underlying70] at hok
    obtain ⟨cs, h1, h2, _⟩ := hok
    exact ⟨cs, h1, h2.trans (by kernel_rfl)⟩
  obtain ⟨cs, rfl, hcs⟩ := hcs
  obtain ⟨fuel, htr⟩ := h0
  have hlt := DataW.trod_lt fuel 70 _ _ htr
  have hrd : RdV (fun b => ∃ off, MemPlace.cell b off ∈ p) W dT (fun i => cs[i]?) 0 := by
    have h1 := trod_rdv (Z := fun b => ∃ off, MemPlace.cell b off ∈ p) 8 fuel dT 70 _ _ _ (by kernel_rfl) htr (fun b off hm => ⟨hfz b off hm, off, hm⟩)
    exact h1.congr dT fun i _ => by simp [Value.cells]
  refine (topL W _ cs hcs (fun b ⟨off, hm⟩ => hlt _ hm) hrd).mono fun e W' ⟨he, hg⟩ => ?_
  subst he
  refine ⟨_, rfl, _, _, _, [], p, [], hW', trodAll_mk1 (shut_bool Tryd.underlying4 true), ?_, rfl, keptBut_of_grown hg _, fun h => by cases h⟩
  exact args_stay (kids_rows seat_laidOut seat_maps) seat_sz (fun b hb => hg.block b hb (by simp)) hA (fun t ht => by
    have hT : Nat.blt 70 Tryd.prog.types.size = true := by kernel_rfl
    have : t = 70 := by simpa using ht
    rw [this]; exact Nat.le_of_ble_eq_true hT) _ (fun x hx => by simpa using DataW.TrodAll.lt hA x hx)

theorem saidL : Rows.TopSharedSegmentsSaid :=
  OpenClaim.holds_of_wide 5 Tryd.f5 rfl rfl rfl rfl rfl rfl rfl ⟨rfl, rfl, rfl, rfl, rfl⟩ rfl rfl rfl rfl rfl (by kernel_rfl) Tryd.func5 (by kernel_rfl)
    (of_decide_eq_true (by kernel_rfl)) (by unfold Func.isWrapper; first | (rw [if_pos (by decide +kernel)]; kernel_rfl) | (rw [if_neg (by decide +kernel)]; exact ⟨rfl, rfl⟩))
    (fun os started H enc _ => liftedL os started H enc)

theorem cardL : Rows.TopSharedSegmentsCardSaid :=
  Claim7.holds_tied_plain_at .later [] [.data, .pinned] true (true, "0f0b7de1b324808f4fcb5ed897616b417999e6a9439677bed79f5e4e26f1e337") true saidL (fun _ h => by cases h) (by kernel_rfl) (fun _ h => by cases h) topSharedSegments_row_tie rfl ⟨rfl, rfl⟩ (by kernel_rfl) rfl
    (fun f fn hf hfn => by
      obtain rfl : f = 5 := Option.some.inj ((show Tryd.prog.funcNamed "pointcode/pointcodetop.TopSharedSegments" = some 5 by kernel_rfl).symm.trans hf) |>.symm
      obtain rfl : fn = Tryd.f5 := (Option.some.inj (Tryd.func5.symm.trans hfn)).symm
      exact ⟨by kernel_rfl, fun j t ht => by
        rw [Tryd.params5] at ht
        have hm : t ∈ [70] := by simpa using Array.mem_of_getElem? ht
        have hall : ([70].all fun u => !Tryd.prog.wantsStandIn u) = true := by kernel_rfl
        exact (show Tryd.prog.wantsStandIn t = false by simpa using List.all_eq_true.1 hall t hm)⟩)
    (by kernel_rfl)

end Go.Sx

namespace Go.Proofs.YtiecagflhhmfnaaDoor

theorem segments_card : Rows.TopSharedSegmentsCardSaid := Go.Sx.cardL

end Go.Proofs.YtiecagflhhmfnaaDoor
