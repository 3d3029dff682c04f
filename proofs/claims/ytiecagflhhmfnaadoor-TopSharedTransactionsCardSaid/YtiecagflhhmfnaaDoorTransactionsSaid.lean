/- For every input the law TopSharedTransactions returns true and leaves its argument as it was; no conditions. -/
import Derived.Test.YtiecagflhhmfnaaDoorTrnP
import Derived.Test.YtiecagflhhmfnaaDoorTrnC
import Derived.Test.YtiecagflhhmfnaaDoorR
import Derived.Test.YtiecagflhhmfnaaDoorProg
import Derived.WalkKit
import Derived.WalkSpells
import Derived.StillTactics
import Derived.OwnWalk
import Derived.Laws.Pointers
import Derived.Deep.RegionLaw
import Derived.Deep.AppendLies
import Derived.Deep.LoopGhost
import Derived.KernelRfl
import Derived.Test.YtiecagflhhmfnaaDoorT
import Derived.Test.YtiecagflhhmfnaaDoorTrnF
import Derived.Test.YtiecagflhhmfnaaDoorLB

set_option linter.unusedSimpArgs false
set_option linter.unusedVariables false

namespace Go.Sx
open Go Go.Proofs

theorem fillL : Instr.fill (fun i => some (i * 1, 1)) ((Array.range (3 * 1)).map fun i => (Value.nilFunc).cells[i % (Value.nilFunc).cells.size]!) [(0, .func (.func 104) #[] #[]), (1, .func (.func 106) #[] #[]), (2, .func (.func 109) #[] #[])] = some #[.func (.func 104) #[] #[], .func (.func 106) #[] #[], .func (.func 109) #[] #[]] := by kernel_rfl

theorem topu : Tryd.prog.underlying 176 = some (.slice 170) := Tryd.underlying176
theorem topsz : sizeAt Tryd.prog 170 = some 1 := by kernel_rfl
theorem topz : zeroAt Tryd.prog 170 = some .nilFunc := by kernel_rfl

set_option maxRecDepth 100000 in
set_option maxHeartbeats 1600000 in
theorem topL (w : World) (Z : Nat → Prop) (cs : Array Value) (hcs : cs.size = 6) (hZ : ∀ b, Z b → b < w.heap.size) (hrd : RdV Z w dT (fun i => cs[i]?) 0) (hgl : GlobW Tryd.prog w glL) :
    Calls Tryd.prog 10 #[.agg cs] w fun e w' => e = .returned (.bool true) ∧ w.grownBy w' none := by
  have hw1 := alloc_size w (.cells cs 164)
  have hg2 := grown_trans (grown_alloc w (.cells cs 164)) (grown_alloc (w.alloc (.cells cs 164)) (.cells #[.func (.func 104) #[] #[], .func (.func 106) #[] #[], .func (.func 109) #[] #[]] 170))
  have hs2 := alloc_size (w.alloc (.cells cs 164)) (.cells #[.func (.func 104) #[] #[], .func (.func 106) #[] #[], .func (.func 109) #[] #[]] 170)
  have hb2 : ((w.alloc (.cells cs 164)).alloc (.cells #[.func (.func 104) #[] #[], .func (.func 106) #[] #[], .func (.func 109) #[] #[]] 170)).heap[w.heap.size + 1]? = some (.cells #[.func (.func 104) #[] #[], .func (.func 106) #[] #[], .func (.func 109) #[] #[]] 170 (0, 0)) := by rw [alloc_get, if_pos hw1.symm]
  have hap := apartL ((w.alloc (.cells cs 164)).alloc (.cells #[.func (.func 104) #[] #[], .func (.func 106) #[] #[], .func (.func 109) #[] #[]] 170)) Z cs (.slice (some ⟨w.heap.size + 1, 0, none⟩) 3 3) [104, 106, 109] hcs
    (fun b hb => by have := hZ b hb; omega) (hrd.same (fun b hb => hg2.block b (hZ b hb) (by simp)) dT)
    ⟨w.heap.size + 1, 3, rfl, by omega, fun i f h => by
      rw [cell?_blk hb2]
      match i, h with
      | 0, h => cases h; rfl
      | 1, h => cases h; rfl
      | 2, h => cases h; rfl⟩
    (fun f hf => by
      simp only [List.mem_cons, List.not_mem_nil, or_false] at hf
      rcases hf with rfl | rfl | rfl
      · exact ⟨call104, by kernel_rfl⟩
      · exact ⟨call106, by kernel_rfl⟩
      · exact ⟨call109, by kernel_rfl⟩
    ) (by simp) (hgl.grown hg2)
  have hx1 : (w.alloc (.cells cs 164)).heap[w.heap.size]? = some (.cells cs 164 (0, 0)) := by rw [alloc_get, if_pos rfl]
  have hx2 : ((w.alloc (.cells cs 164)).alloc (.cells #[.func (.func 104) #[] #[], .func (.func 106) #[] #[], .func (.func 109) #[] #[]] 170)).heap[w.heap.size]? = some (.cells cs 164 (0, 0)) := by rw [alloc_get, if_neg (by omega), alloc_get, if_pos rfl]
  have hagT : aggOf Tryd.prog 164 = some true := by kernel_rfl
  have hszT : sizeAt Tryd.prog 164 = some 6 := by kernel_rfl
  go_enter Tryd.func10, Tryd.ntmps10
  go_wp2_with (first
    | (refine wpList_buildFs rfl 176 3 _ rfl 170 topu topsz topz #[.func (.func 104) #[] #[], .func (.func 106) #[] #[], .func (.func 109) #[] #[]] (by omega) (by omega) [(0, .func (.func 104) #[] #[]), (1, .func (.func 106) #[] #[]), (2, .func (.func 109) #[] #[])] rfl fillL ?_)
    | (refine wpList_load_agg rfl 164 _ rfl hagT 6 hszT w.heap.size rfl cs 164 (by first | exact hx1 | exact hx2) hcs ?_)
    | (refine hap.mono ?_
       clear hap
       rintro e w3 ⟨rfl, hg3⟩)
    | (refine (rings18 _).mono ?_
       rintro e w4 ⟨rfl, hg4⟩))
  go_ret
  exact ⟨rfl, grown_trans (grown_trans hg2 hg3) hg4⟩

end Go.Sx

namespace Go.Sx
open Go Go.Proofs

open Go.ChangeShapes Go.WideShapes Go.ChangeAt Go.RowKit
open Go.Proofs.YtiecagflhhmfnaaDoor

set_option maxRecDepth 100000 in
theorem liftedL (os : Os) (started : os.Started) (H : Type) (enc : TypeId × Value → H) :
    ReturnsInHanded {} Tryd.checked os 10 .any (fun w args => (Rows.topSharedTransactionsSpec.pre enc Tryd.prog Tryd.f10 [] false w args ∧ laidMetH Tryd.prog Rows.topSharedTransactionsRow.laid w) ∧ sizedMet enc Tryd.prog Tryd.f10 (OpenSpec.ofChange Rows.topSharedTransactionsSpec) false w args)
      (Rows.topSharedTransactionsSpec.post enc Tryd.prog Tryd.f10 false true false false) := by
  refine returnsInHanded_of_change_and (C := Tryd.checked) (X := fun w _ => laidMetH Tryd.prog Rows.topSharedTransactionsRow.laid w) (fun _ _ _ hh h => h.of_heap hh) seat_own started (by kernel_rfl) Tryd.func10
    (ChangeSpec.witness_shaped (enc := enc) (C := Tryd.checked) (os := os) (X := fun w _ => laidMetH Tryd.prog Rows.topSharedTransactionsRow.laid w) false (World.laidAll Tryd.prog os Rows.topSharedTransactionsRow.laid) #[(zeroAt Tryd.prog 164).getD default] 8 (World.laidAll_os _ _ _)
      (World.shaped_of_ZipB (by kernel_rfl) (by kernel_rfl)) (by kernel_rfl) (by kernel_rfl) (by kernel_rfl)
      (by rw [MakeChecks.laidMetH_plain _ _ _ (by kernel_rfl)]; exact laidMet_laidAll _ (by kernel_rfl) (by kernel_rfl))) ?_
  intro W base args ds gs before hval0 hW _ _ hXw _
  have hval : ∀ (j : Nat) t v, Tryd.f10.params[j]? = some t → args[j]? = some v → Value.okWide Tryd.prog W .any base t v := hval0
  have hW' := hW
  obtain ⟨p, q, hA0, hV, rfl, hfz, _⟩ := hW
  have hA : DataW.TrodAll enc Tryd.prog W 0 (fun _ => true) true Tryd.f10.params.toList args.toList ds p := hA0
  rw [Tryd.params10] at hA hval
  obtain ⟨v0, d0, rfl, rfl, h0⟩ := trodAll_one hA
  obtain ⟨rfl, rfl⟩ := trodVars_none hV
  simp only [List.append_nil] at hW' hfz
  have hok := hval 0 164 v0 rfl rfl
  have hcs : ∃ cs, v0 = .agg cs ∧ cs.size = 6 := by
    simp only [Value.okWide, Tryd.underlying164] at hok
    obtain ⟨cs, h1, h2, _⟩ := hok
    exact ⟨cs, h1, h2.trans (by kernel_rfl)⟩
  obtain ⟨cs, rfl, hcs⟩ := hcs
  obtain ⟨fuel, htr⟩ := h0
  have hlt := DataW.trod_lt fuel 164 _ _ htr
  have hrd : RdV (fun b => ∃ off, MemPlace.cell b off ∈ p) W dT (fun i => cs[i]?) 0 := by
    have h1 := trod_rdv (Z := fun b => ∃ off, MemPlace.cell b off ∈ p) 8 fuel dT 164 _ _ _ (by kernel_rfl) htr (fun b off hm => ⟨hfz b off hm, off, hm⟩)
    exact h1.congr dT fun i _ => by simp [Value.cells]
  have hglw : GlobW Tryd.prog W glL := GlobW.nil _ _
  refine (topL W _ cs hcs (fun b ⟨off, hm⟩ => hlt _ hm) hrd hglw).mono fun e W' ⟨he, hg⟩ => ?_
  subst he
  refine ⟨_, rfl, _, _, _, [], p, [], hW', trodAll_mk1 (shut_bool Tryd.underlying4 true), ?_, rfl, keptBut_of_grown hg _, fun h => by cases h⟩
  exact args_stay (kids_rows seat_laidOut seat_maps) seat_sz (fun b hb => hg.block b hb (by simp)) hA (fun t ht => by
    have hT : Nat.blt 164 Tryd.prog.types.size = true := by kernel_rfl
    have : t = 164 := by simpa using ht
    rw [this]; exact Nat.le_of_ble_eq_true hT) _ (fun x hx => by simpa using DataW.TrodAll.lt hA x hx)

set_option maxRecDepth 100000 in
theorem closedL : joinedFacts Tryd.prog 10 Tryd.f10 Rows.topSharedTransactionsSpec Rows.topSharedTransactionsRow = true := by
  unfold joinedFacts
  exact (band (band (band (band (band (band (band (band (band (band (band (band (band (band (band (band (band (band (band (band (band (band (band (band (band (band (band (band (band (band (band jf0 seat_jf1) seat_jf2) jf3) jf4) jf5) seat_jf6) jf7) seat_jf8) jf9) jf10) jf11) jf12) jf13) jf14) jf15) jf16) jf17) jf18) jf19) jf20) jf21) jf22) jf23) seat_jf24) seat_jf25) jf26) jf27) jf28) jf29) jf30) jf31)

theorem saidL : Rows.TopSharedTransactionsSaid :=
  OpenClaim.holds_of_wide 10 Tryd.f10 rfl rfl rfl rfl rfl rfl rfl ⟨rfl, rfl, rfl, rfl, rfl⟩ rfl rfl rfl rfl rfl (by kernel_rfl) Tryd.func10 closedL
    (of_decide_eq_true (by kernel_rfl)) (by unfold Func.isWrapper; first | (rw [if_pos (by decide +kernel)]; kernel_rfl) | (rw [if_neg (by decide +kernel)]; exact ⟨rfl, rfl⟩))
    (fun os started H enc _ => liftedL os started H enc)

theorem cardL : Rows.TopSharedTransactionsCardSaid :=
  Claim7.holds_tied_plain_at .later [] [.data, .pinned] true (true, "0f0b7de1b324808f4fcb5ed897616b417999e6a9439677bed79f5e4e26f1e337") true saidL (fun _ h => by cases h) (by kernel_rfl) (fun _ h => by cases h) topSharedTransactions_row_tie rfl ⟨rfl, rfl⟩ (by kernel_rfl) rfl
    (fun f fn hf hfn => by
      obtain rfl : f = 10 := Option.some.inj ((show Tryd.prog.funcNamed "pointcode/pointcodetop.TopSharedTransactions" = some 10 by kernel_rfl).symm.trans hf) |>.symm
      obtain rfl : fn = Tryd.f10 := (Option.some.inj (Tryd.func10.symm.trans hfn)).symm
      exact ⟨by kernel_rfl, fun j t ht => by
        rw [Tryd.params10] at ht
        have hm : t ∈ [164] := by simpa using Array.mem_of_getElem? ht
        have hall : ([164].all fun u => !Tryd.prog.wantsStandIn u) = true := by kernel_rfl
        exact (show Tryd.prog.wantsStandIn t = false by simpa using List.all_eq_true.1 hall t hm)⟩)
    (by kernel_rfl)

end Go.Sx

namespace Go.Proofs.YtiecagflhhmfnaaDoor

theorem transactions_card : Rows.TopSharedTransactionsCardSaid := Go.Sx.cardL

end Go.Proofs.YtiecagflhhmfnaaDoor
