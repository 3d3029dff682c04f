/- For every input the law TopSharedBits returns true and leaves its argument as it was; no conditions. -/
import Derived.Test.YtnpjbhmolemciaaGreatDoorBitP
import Derived.Test.YtnpjbhmolemciaaGreatDoorBitC
import Derived.Test.YtnpjbhmolemciaaGreatDoorR
import Derived.Test.YtnpjbhmolemciaaGreatDoorProg
import Derived.WalkKit
import Derived.WalkSpells
import Derived.StillTactics
import Derived.OwnWalk
import Derived.Laws.Pointers
import Derived.Deep.RegionLaw
import Derived.Deep.AppendLies
import Derived.Deep.LoopGhost
import Derived.KernelRfl
import Derived.Test.YtnpjbhmolemciaaGreatDoorT
import Derived.Test.YtnpjbhmolemciaaGreatDoorBitF
import Derived.Test.YtnpjbhmolemciaaGreatDoorLB

namespace Go.Sx
open Go Go.Proofs

theorem fillL : Instr.fill (fun i => some (i * 1, 1)) ((Array.range (10 * 1)).map fun i => (Value.nilFunc).cells[i % (Value.nilFunc).cells.size]!) [(0, .func (.func 8) #[] #[]), (1, .func (.func 10) #[] #[]), (2, .func (.func 14) #[] #[]), (3, .func (.func 17) #[] #[]), (4, .func (.func 20) #[] #[]), (5, .func (.func 22) #[] #[]), (6, .func (.func 25) #[] #[]), (7, .func (.func 29) #[] #[]), (8, .func (.func 31) #[] #[]), (9, .func (.func 33) #[] #[])] = some #[.func (.func 8) #[] #[], .func (.func 10) #[] #[], .func (.func 14) #[] #[], .func (.func 17) #[] #[], .func (.func 20) #[] #[], .func (.func 22) #[] #[], .func (.func 25) #[] #[], .func (.func 29) #[] #[], .func (.func 31) #[] #[], .func (.func 33) #[] #[]] := by kernel_rfl

theorem topu : Tryz.prog.underlying 54 = some (.slice 34) := Tryz.underlying54
theorem topsz : sizeAt Tryz.prog 34 = some 1 := by kernel_rfl
theorem topz : zeroAt Tryz.prog 34 = some .nilFunc := by kernel_rfl

set_option maxRecDepth 100000 in
set_option maxHeartbeats 1600000 in
theorem topL (w : World) (Z : Nat → Prop) (cs : Array Value) (hcs : cs.size = 9) (hZ : ∀ b, Z b → b < w.heap.size) (hrd : RdV Z w dT (fun i => cs[i]?) 0) (hgl : GlobW Tryz.prog w glL) :
    Calls Tryz.prog 3 #[.agg cs] w fun e w' => e = .returned (.bool true) ∧ w.grownBy w' none := by
  have hw1 := alloc_size w (.cells cs 26)
  have hg2 := grown_trans (grown_alloc w (.cells cs 26)) (grown_alloc (w.alloc (.cells cs 26)) (.cells #[.func (.func 8) #[] #[], .func (.func 10) #[] #[], .func (.func 14) #[] #[], .func (.func 17) #[] #[], .func (.func 20) #[] #[], .func (.func 22) #[] #[], .func (.func 25) #[] #[], .func (.func 29) #[] #[], .func (.func 31) #[] #[], .func (.func 33) #[] #[]] 34))
  have hs2 := alloc_size (w.alloc (.cells cs 26)) (.cells #[.func (.func 8) #[] #[], .func (.func 10) #[] #[], .func (.func 14) #[] #[], .func (.func 17) #[] #[], .func (.func 20) #[] #[], .func (.func 22) #[] #[], .func (.func 25) #[] #[], .func (.func 29) #[] #[], .func (.func 31) #[] #[], .func (.func 33) #[] #[]] 34)
  have hb2 : ((w.alloc (.cells cs 26)).alloc (.cells #[.func (.func 8) #[] #[], .func (.func 10) #[] #[], .func (.func 14) #[] #[], .func (.func 17) #[] #[], .func (.func 20) #[] #[], .func (.func 22) #[] #[], .func (.func 25) #[] #[], .func (.func 29) #[] #[], .func (.func 31) #[] #[], .func (.func 33) #[] #[]] 34)).heap[w.heap.size + 1]? = some (.cells #[.func (.func 8) #[] #[], .func (.func 10) #[] #[], .func (.func 14) #[] #[], .func (.func 17) #[] #[], .func (.func 20) #[] #[], .func (.func 22) #[] #[], .func (.func 25) #[] #[], .func (.func 29) #[] #[], .func (.func 31) #[] #[], .func (.func 33) #[] #[]] 34 (0, 0)) := by rw [alloc_get, if_pos hw1.symm]
  have hap := apartL ((w.alloc (.cells cs 26)).alloc (.cells #[.func (.func 8) #[] #[], .func (.func 10) #[] #[], .func (.func 14) #[] #[], .func (.func 17) #[] #[], .func (.func 20) #[] #[], .func (.func 22) #[] #[], .func (.func 25) #[] #[], .func (.func 29) #[] #[], .func (.func 31) #[] #[], .func (.func 33) #[] #[]] 34)) Z cs (.slice (some ⟨w.heap.size + 1, 0, none⟩) 10 10) [8, 10, 14, 17, 20, 22, 25, 29, 31, 33] hcs
    (fun b hb => by have := hZ b hb; omega) (hrd.same (fun b hb => hg2.block b (hZ b hb) (by simp)) dT)
    ⟨w.heap.size + 1, 10, rfl, by omega, fun i f h => by
      rw [cell?_blk hb2]
      match i, h with
      | 0, h => cases h; rfl
      | 1, h => cases h; rfl
      | 2, h => cases h; rfl
      | 3, h => cases h; rfl
      | 4, h => cases h; rfl
      | 5, h => cases h; rfl
      | 6, h => cases h; rfl
      | 7, h => cases h; rfl
      | 8, h => cases h; rfl
      | 9, h => cases h; rfl⟩
    (fun f hf => by
      simp only [List.mem_cons, List.not_mem_nil, or_false] at hf
      rcases hf with rfl | rfl | rfl | rfl | rfl | rfl | rfl | rfl | rfl | rfl
      · exact ⟨call8, by kernel_rfl⟩
      · exact ⟨call10, by kernel_rfl⟩
      · exact ⟨call14, by kernel_rfl⟩
      · exact ⟨call17, by kernel_rfl⟩
      · exact ⟨call20, by kernel_rfl⟩
      · exact ⟨call22, by kernel_rfl⟩
      · exact ⟨call25, by kernel_rfl⟩
      · exact ⟨call29, by kernel_rfl⟩
      · exact ⟨call31, by kernel_rfl⟩
      · exact ⟨call33, by kernel_rfl⟩
    ) (by simp) (hgl.grown hg2)
  have hx1 : (w.alloc (.cells cs 26)).heap[w.heap.size]? = some (.cells cs 26 (0, 0)) := by rw [alloc_get, if_pos rfl]
  have hx2 : ((w.alloc (.cells cs 26)).alloc (.cells #[.func (.func 8) #[] #[], .func (.func 10) #[] #[], .func (.func 14) #[] #[], .func (.func 17) #[] #[], .func (.func 20) #[] #[], .func (.func 22) #[] #[], .func (.func 25) #[] #[], .func (.func 29) #[] #[], .func (.func 31) #[] #[], .func (.func 33) #[] #[]] 34)).heap[w.heap.size]? = some (.cells cs 26 (0, 0)) := by rw [alloc_get, if_neg (by omega), alloc_get, if_pos rfl]
  have hagT : aggOf Tryz.prog 26 = some true := by kernel_rfl
  have hszT : sizeAt Tryz.prog 26 = some 9 := by kernel_rfl
  go_enter Tryz.func3, Tryz.ntmps3
  go_wp2_with (first
    | (refine wpList_buildFs rfl 54 10 _ rfl 34 topu topsz topz #[.func (.func 8) #[] #[], .func (.func 10) #[] #[], .func (.func 14) #[] #[], .func (.func 17) #[] #[], .func (.func 20) #[] #[], .func (.func 22) #[] #[], .func (.func 25) #[] #[], .func (.func 29) #[] #[], .func (.func 31) #[] #[], .func (.func 33) #[] #[]] (by omega) (by omega) [(0, .func (.func 8) #[] #[]), (1, .func (.func 10) #[] #[]), (2, .func (.func 14) #[] #[]), (3, .func (.func 17) #[] #[]), (4, .func (.func 20) #[] #[]), (5, .func (.func 22) #[] #[]), (6, .func (.func 25) #[] #[]), (7, .func (.func 29) #[] #[]), (8, .func (.func 31) #[] #[]), (9, .func (.func 33) #[] #[])] rfl fillL ?_)
    | (refine wpList_load_agg rfl 26 _ rfl hagT 9 hszT w.heap.size rfl cs 26 (by first | exact hx1 | exact hx2) hcs ?_)
    | (refine hap.mono ?_
       clear hap
       rintro e w3 ⟨rfl, hg3⟩)
    | (refine (rings36 _).mono ?_
       rintro e w4 ⟨rfl, hg4⟩))
  go_ret
  exact ⟨rfl, grown_trans (grown_trans hg2 hg3) hg4⟩

end Go.Sx

namespace Go.Sx
open Go Go.Proofs

open Go.ChangeShapes Go.WideShapes Go.ChangeAt Go.RowKit
open Go.Proofs.YtnpjbhmolemciaaGreatDoor

set_option maxRecDepth 100000 in
theorem liftedL (os : Os) (started : os.Started) (H : Type) (enc : TypeId × Value → H) :
    ReturnsInHanded {} Tryz.checked os 3 .any (fun w args => (Rows.topSharedBitsSpec.pre enc Tryz.prog Tryz.f3 [] false w args ∧ laidMetH Tryz.prog Rows.topSharedBitsRow.laid w) ∧ sizedMet enc Tryz.prog Tryz.f3 (OpenSpec.ofChange Rows.topSharedBitsSpec) false w args)
      (Rows.topSharedBitsSpec.post enc Tryz.prog Tryz.f3 false true false false) := by
  refine returnsInHanded_of_change_and (C := Tryz.checked) (X := fun w _ => laidMetH Tryz.prog Rows.topSharedBitsRow.laid w) (fun _ _ _ hh h => h.of_heap hh) seat_own started (by kernel_rfl) Tryz.func3
    (ChangeSpec.witness_shaped (enc := enc) (C := Tryz.checked) (os := os) (X := fun w _ => laidMetH Tryz.prog Rows.topSharedBitsRow.laid w) false (World.laidAll Tryz.prog os Rows.topSharedBitsRow.laid) #[(zeroAt Tryz.prog 26).getD default] 8 (World.laidAll_os _ _ _)
      (World.shaped_of_ZipB (by kernel_rfl) (by kernel_rfl)) (by kernel_rfl) (by kernel_rfl) (by kernel_rfl)
      (by rw [MakeChecks.laidMetH_plain _ _ _ (by kernel_rfl)]; exact laidMet_laidAll _ (by kernel_rfl) (by kernel_rfl))) ?_
  intro W base args ds gs before hval0 hW _ _ hXw _
  have hval : ∀ (j : Nat) t v, Tryz.f3.params[j]? = some t → args[j]? = some v → Value.okWide Tryz.prog W .any base t v := hval0
  have hW' := hW
  obtain ⟨p, q, hA0, hV, rfl, hfz, _⟩ := hW
  have hA : DataW.TrodAll enc Tryz.prog W 0 (fun _ => true) true Tryz.f3.params.toList args.toList ds p := hA0
  rw [Tryz.params3] at hA hval
  obtain ⟨v0, d0, rfl, rfl, h0⟩ := trodAll_one hA
  obtain ⟨rfl, rfl⟩ := trodVars_none hV
  simp only [List.append_nil] at hW' hfz
  have hok := hval 0 26 v0 rfl rfl
  have hcs : ∃ cs, v0 = .agg cs ∧ cs.size = 9 := by
    simp only [Value.okWide, Tryz.underlying26] at hok
    obtain ⟨cs, h1, h2, _⟩ := hok
    exact ⟨cs, h1, h2.trans (by kernel_rfl)⟩
  obtain ⟨cs, rfl, hcs⟩ := hcs
  obtain ⟨fuel, htr⟩ := h0
  have hlt := DataW.trod_lt fuel 26 _ _ htr
  have hrd : RdV (fun b => ∃ off, MemPlace.cell b off ∈ p) W dT (fun i => cs[i]?) 0 := by
    have h1 := trod_rdv (Z := fun b => ∃ off, MemPlace.cell b off ∈ p) 8 fuel dT 26 _ _ _ (by kernel_rfl) htr (fun b off hm => ⟨hfz b off hm, off, hm⟩)
    exact h1.congr dT fun i _ => by simp [Value.cells]
  have hglw : GlobW Tryz.prog W glL := GlobW.nil _ _
  refine (topL W _ cs hcs (fun b ⟨off, hm⟩ => hlt _ hm) hrd hglw).mono fun e W' ⟨he, hg⟩ => ?_
  subst he
  refine ⟨_, rfl, _, _, _, [], p, [], hW', trodAll_mk1 (shut_bool Tryz.underlying4 true), ?_, rfl, keptBut_of_grown hg _, fun h => by cases h⟩
  exact args_stay (kids_rows seat_laidOut seat_maps) seat_sz (fun b hb => hg.block b hb (by simp)) hA (fun t ht => by
    have hT : Nat.blt 26 Tryz.prog.types.size = true := by kernel_rfl
    have : t = 26 := by simpa using ht
    rw [this]; exact Nat.le_of_ble_eq_true hT) _ (fun x hx => by simpa using DataW.TrodAll.lt hA x hx)

set_option maxRecDepth 100000 in
theorem closedL : joinedFacts Tryz.prog 3 Tryz.f3 Rows.topSharedBitsSpec Rows.topSharedBitsRow = true := by
  unfold joinedFacts
  exact (band (band (band (band (band (band (band (band (band (band (band (band (band (band (band (band (band (band (band (band (band (band (band (band (band (band (band (band (band (band (band jf0 seat_jf1) seat_jf2) jf3) jf4) jf5) seat_jf6) jf7) seat_jf8) jf9) jf10) jf11) jf12) jf13) jf14) jf15) jf16) jf17) jf18) jf19) jf20) jf21) jf22) jf23) seat_jf24) seat_jf25) jf26) jf27) jf28) jf29) jf30) jf31)

theorem saidL : Rows.TopSharedBitsSaid :=
  OpenClaim.holds_of_wide 3 Tryz.f3 rfl rfl rfl rfl rfl rfl rfl ⟨rfl, rfl, rfl, rfl, rfl⟩ rfl rfl rfl rfl rfl (by kernel_rfl) Tryz.func3 closedL
    (of_decide_eq_true (by kernel_rfl)) (by unfold Func.isWrapper; first | (rw [if_pos (by decide +kernel)]; kernel_rfl) | (rw [if_neg (by decide +kernel)]; exact ⟨rfl, rfl⟩))
    (fun os started H enc _ => liftedL os started H enc)

theorem cardL : Rows.TopSharedBitsCardSaid :=
  Claim7.holds_tied_plain_at .later [] [.data, .pinned] true (true, "73036cbce305e9eaa38d36ca2e2552e834d08501a7d44db71dd9f724c8c4e935") false saidL (fun _ h => by cases h) (by kernel_rfl) (fun _ h => by cases h) topSharedBits_row_tie rfl ⟨rfl, rfl⟩ (by kernel_rfl) rfl
    (fun f fn hf hfn => by
      obtain rfl : f = 3 := Option.some.inj ((show Tryz.prog.funcNamed "pointcode/pointcodetop.TopSharedBits" = some 3 by kernel_rfl).symm.trans hf) |>.symm
      obtain rfl : fn = Tryz.f3 := (Option.some.inj (Tryz.func3.symm.trans hfn)).symm
      exact ⟨by kernel_rfl, fun j t ht => by
        rw [Tryz.params3] at ht
        have hm : t ∈ [26] := by simpa using Array.mem_of_getElem? ht
        have hall : ([26].all fun u => !Tryz.prog.wantsStandIn u) = true := by kernel_rfl
        exact (show Tryz.prog.wantsStandIn t = false by simpa using List.all_eq_true.1 hall t hm)⟩)
    (by kernel_rfl)

end Go.Sx

namespace Go.Proofs.YtnpjbhmolemciaaGreatDoor

theorem bits_card : Rows.TopSharedBitsCardSaid := Go.Sx.cardL

end Go.Proofs.YtnpjbhmolemciaaGreatDoor
