/- For every input the law TopSharedTags returns true and leaves its argument as it was; no conditions. -/
import Derived.Test.YtadhlkgjiccdpaaGreatDoorTagP
import Derived.Test.YtadhlkgjiccdpaaGreatDoorTagC
import Derived.Test.YtadhlkgjiccdpaaGreatDoorR
import Derived.Test.YtadhlkgjiccdpaaGreatDoorProg
import Derived.WalkKit
import Derived.WalkSpells
import Derived.StillTactics
import Derived.OwnWalk
import Derived.Laws.Pointers
import Derived.Deep.RegionLaw
import Derived.Deep.AppendLies
import Derived.Deep.LoopGhost
import Derived.KernelRfl
import Derived.Test.YtadhlkgjiccdpaaGreatDoorT
import Derived.Test.YtadhlkgjiccdpaaGreatDoorTagF
import Derived.Test.YtadhlkgjiccdpaaGreatDoorLB
import Derived.Test.YtadhlkgjiccdpaaGreatDoorLT

set_option linter.unusedSimpArgs false
set_option linter.unusedVariables false

namespace Go.Sx
open Go Go.Proofs

theorem fillL : Instr.fill (fun i => some (i * 1, 1)) ((Array.range (14 * 1)).map fun i => (Value.nilFunc).cells[i % (Value.nilFunc).cells.size]!) [(0, .func (.func 47) #[] #[]), (1, .func (.func 49) #[] #[]), (2, .func (.func 51) #[] #[]), (3, .func (.func 53) #[] #[]), (4, .func (.func 56) #[] #[]), (5, .func (.func 59) #[] #[]), (6, .func (.func 62) #[] #[]), (7, .func (.func 65) #[] #[]), (8, .func (.func 67) #[] #[]), (9, .func (.func 70) #[] #[]), (10, .func (.func 72) #[] #[]), (11, .func (.func 75) #[] #[]), (12, .func (.func 77) #[] #[]), (13, .func (.func 79) #[] #[])] = some #[.func (.func 47) #[] #[], .func (.func 49) #[] #[], .func (.func 51) #[] #[], .func (.func 53) #[] #[], .func (.func 56) #[] #[], .func (.func 59) #[] #[], .func (.func 62) #[] #[], .func (.func 65) #[] #[], .func (.func 67) #[] #[], .func (.func 70) #[] #[], .func (.func 72) #[] #[], .func (.func 75) #[] #[], .func (.func 77) #[] #[], .func (.func 79) #[] #[]] := by kernel_rfl

theorem topu : Tryz.prog.underlying 110 = some (.slice 94) := Tryz.underlying110
theorem topsz : sizeAt Tryz.prog 94 = some 1 := by kernel_rfl
theorem topz : zeroAt Tryz.prog 94 = some .nilFunc := by kernel_rfl

set_option maxRecDepth 100000 in
set_option maxHeartbeats 1600000 in
theorem topL (w : World) (Z : Nat → Prop) (cs : Array Value) (hcs : cs.size = 22) (hZ : ∀ b, Z b → b < w.heap.size) (hrd : RdV Z w dT (fun i => cs[i]?) 0) (hgl : GlobW Tryz.prog w glL) :
    Calls Tryz.prog 5 #[.agg cs] w fun e w' => e = .returned (.bool true) ∧ w.grownBy w' none := by
  have hw1 := alloc_size w (.cells cs 88)
  have hg2 := grown_trans (grown_alloc w (.cells cs 88)) (grown_alloc (w.alloc (.cells cs 88)) (.cells #[.func (.func 47) #[] #[], .func (.func 49) #[] #[], .func (.func 51) #[] #[], .func (.func 53) #[] #[], .func (.func 56) #[] #[], .func (.func 59) #[] #[], .func (.func 62) #[] #[], .func (.func 65) #[] #[], .func (.func 67) #[] #[], .func (.func 70) #[] #[], .func (.func 72) #[] #[], .func (.func 75) #[] #[], .func (.func 77) #[] #[], .func (.func 79) #[] #[]] 94))
  have hs2 := alloc_size (w.alloc (.cells cs 88)) (.cells #[.func (.func 47) #[] #[], .func (.func 49) #[] #[], .func (.func 51) #[] #[], .func (.func 53) #[] #[], .func (.func 56) #[] #[], .func (.func 59) #[] #[], .func (.func 62) #[] #[], .func (.func 65) #[] #[], .func (.func 67) #[] #[], .func (.func 70) #[] #[], .func (.func 72) #[] #[], .func (.func 75) #[] #[], .func (.func 77) #[] #[], .func (.func 79) #[] #[]] 94)
  have hb2 : ((w.alloc (.cells cs 88)).alloc (.cells #[.func (.func 47) #[] #[], .func (.func 49) #[] #[], .func (.func 51) #[] #[], .func (.func 53) #[] #[], .func (.func 56) #[] #[], .func (.func 59) #[] #[], .func (.func 62) #[] #[], .func (.func 65) #[] #[], .func (.func 67) #[] #[], .func (.func 70) #[] #[], .func (.func 72) #[] #[], .func (.func 75) #[] #[], .func (.func 77) #[] #[], .func (.func 79) #[] #[]] 94)).heap[w.heap.size + 1]? = some (.cells #[.func (.func 47) #[] #[], .func (.func 49) #[] #[], .func (.func 51) #[] #[], .func (.func 53) #[] #[], .func (.func 56) #[] #[], .func (.func 59) #[] #[], .func (.func 62) #[] #[], .func (.func 65) #[] #[], .func (.func 67) #[] #[], .func (.func 70) #[] #[], .func (.func 72) #[] #[], .func (.func 75) #[] #[], .func (.func 77) #[] #[], .func (.func 79) #[] #[]] 94 (0, 0)) := by rw [alloc_get, if_pos hw1.symm]
  have hap := apartL ((w.alloc (.cells cs 88)).alloc (.cells #[.func (.func 47) #[] #[], .func (.func 49) #[] #[], .func (.func 51) #[] #[], .func (.func 53) #[] #[], .func (.func 56) #[] #[], .func (.func 59) #[] #[], .func (.func 62) #[] #[], .func (.func 65) #[] #[], .func (.func 67) #[] #[], .func (.func 70) #[] #[], .func (.func 72) #[] #[], .func (.func 75) #[] #[], .func (.func 77) #[] #[], .func (.func 79) #[] #[]] 94)) Z cs (.slice (some ⟨w.heap.size + 1, 0, none⟩) 14 14) [47, 49, 51, 53, 56, 59, 62, 65, 67, 70, 72, 75, 77, 79] hcs
    (fun b hb => by have := hZ b hb; omega) (hrd.same (fun b hb => hg2.block b (hZ b hb) (by simp)) dT)
    ⟨w.heap.size + 1, 14, rfl, by omega, fun i f h => by
      rw [cell?_blk hb2]
      match i, h with
      | 0, h => cases h; rfl
      | 1, h => cases h; rfl
      | 2, h => cases h; rfl
      | 3, h => cases h; rfl
      | 4, h => cases h; rfl
      | 5, h => cases h; rfl
      | 6, h => cases h; rfl
      | 7, h => cases h; rfl
      | 8, h => cases h; rfl
      | 9, h => cases h; rfl
      | 10, h => cases h; rfl
      | 11, h => cases h; rfl
      | 12, h => cases h; rfl
      | 13, h => cases h; rfl⟩
    (fun f hf => by
      simp only [List.mem_cons, List.not_mem_nil, or_false] at hf
      rcases hf with rfl | rfl | rfl | rfl | rfl | rfl | rfl | rfl | rfl | rfl | rfl | rfl | rfl | rfl
      · exact ⟨call47, by kernel_rfl⟩
      · exact ⟨call49, by kernel_rfl⟩
      · exact ⟨call51, by kernel_rfl⟩
      · exact ⟨call53, by kernel_rfl⟩
      · exact ⟨call56, by kernel_rfl⟩
      · exact ⟨call59, by kernel_rfl⟩
      · exact ⟨call62, by kernel_rfl⟩
      · exact ⟨call65, by kernel_rfl⟩
      · exact ⟨call67, by kernel_rfl⟩
      · exact ⟨call70, by kernel_rfl⟩
      · exact ⟨call72, by kernel_rfl⟩
      · exact ⟨call75, by kernel_rfl⟩
      · exact ⟨call77, by kernel_rfl⟩
      · exact ⟨call79, by kernel_rfl⟩
    ) (by simp) (hgl.grown hg2)
  have hx1 : (w.alloc (.cells cs 88)).heap[w.heap.size]? = some (.cells cs 88 (0, 0)) := by rw [alloc_get, if_pos rfl]
  have hx2 : ((w.alloc (.cells cs 88)).alloc (.cells #[.func (.func 47) #[] #[], .func (.func 49) #[] #[], .func (.func 51) #[] #[], .func (.func 53) #[] #[], .func (.func 56) #[] #[], .func (.func 59) #[] #[], .func (.func 62) #[] #[], .func (.func 65) #[] #[], .func (.func 67) #[] #[], .func (.func 70) #[] #[], .func (.func 72) #[] #[], .func (.func 75) #[] #[], .func (.func 77) #[] #[], .func (.func 79) #[] #[]] 94)).heap[w.heap.size]? = some (.cells cs 88 (0, 0)) := by rw [alloc_get, if_neg (by omega), alloc_get, if_pos rfl]
  have hagT : aggOf Tryz.prog 88 = some true := by kernel_rfl
  have hszT : sizeAt Tryz.prog 88 = some 22 := by kernel_rfl
  go_enter Tryz.func5, Tryz.ntmps5
  go_wp2_with (first
    | (refine wpList_buildFs rfl 110 14 _ rfl 94 topu topsz topz #[.func (.func 47) #[] #[], .func (.func 49) #[] #[], .func (.func 51) #[] #[], .func (.func 53) #[] #[], .func (.func 56) #[] #[], .func (.func 59) #[] #[], .func (.func 62) #[] #[], .func (.func 65) #[] #[], .func (.func 67) #[] #[], .func (.func 70) #[] #[], .func (.func 72) #[] #[], .func (.func 75) #[] #[], .func (.func 77) #[] #[], .func (.func 79) #[] #[]] (by omega) (by omega) [(0, .func (.func 47) #[] #[]), (1, .func (.func 49) #[] #[]), (2, .func (.func 51) #[] #[]), (3, .func (.func 53) #[] #[]), (4, .func (.func 56) #[] #[]), (5, .func (.func 59) #[] #[]), (6, .func (.func 62) #[] #[]), (7, .func (.func 65) #[] #[]), (8, .func (.func 67) #[] #[]), (9, .func (.func 70) #[] #[]), (10, .func (.func 72) #[] #[]), (11, .func (.func 75) #[] #[]), (12, .func (.func 77) #[] #[]), (13, .func (.func 79) #[] #[])] rfl fillL ?_)
    | (refine wpList_load_agg rfl 88 _ rfl hagT 22 hszT w.heap.size rfl cs 88 (by first | exact hx1 | exact hx2) hcs ?_)
    | (refine hap.mono ?_
       clear hap
       rintro e w3 ⟨rfl, hg3⟩)
    | (refine (rings22 _).mono ?_
       rintro e w4 ⟨rfl, hg4⟩))
  go_ret
  exact ⟨rfl, grown_trans (grown_trans hg2 hg3) hg4⟩

end Go.Sx

namespace Go.Sx
open Go Go.Proofs

open Go.ChangeShapes Go.WideShapes Go.ChangeAt Go.RowKit
open Go.Proofs.YtadhlkgjiccdpaaGreatDoor

set_option maxRecDepth 100000 in
theorem liftedL (os : Os) (started : os.Started) (H : Type) (enc : TypeId × Value → H) :
    ReturnsInHanded {} Tryz.checked os 5 .any (fun w args => (Rows.topSharedTagsSpec.pre enc Tryz.prog Tryz.f5 [] false w args ∧ laidMetH Tryz.prog Rows.topSharedTagsRow.laid w) ∧ sizedMet enc Tryz.prog Tryz.f5 (OpenSpec.ofChange Rows.topSharedTagsSpec) false w args)
      (Rows.topSharedTagsSpec.post enc Tryz.prog Tryz.f5 false true false false) := by
  refine returnsInHanded_of_change_and (C := Tryz.checked) (X := fun w _ => laidMetH Tryz.prog Rows.topSharedTagsRow.laid w) (fun _ _ _ hh h => h.of_heap hh) seat_own started (by kernel_rfl) Tryz.func5
    (ChangeSpec.witness_shaped (enc := enc) (C := Tryz.checked) (os := os) (X := fun w _ => laidMetH Tryz.prog Rows.topSharedTagsRow.laid w) false (World.laidAll Tryz.prog os Rows.topSharedTagsRow.laid) #[(zeroAt Tryz.prog 88).getD default] 8 (World.laidAll_os _ _ _)
      (World.shaped_of_ZipB (by kernel_rfl) (by kernel_rfl)) (by kernel_rfl) (by kernel_rfl) (by kernel_rfl)
      (by rw [MakeChecks.laidMetH_plain _ _ _ (by kernel_rfl)]; exact laidMet_laidAll _ (by kernel_rfl) (by kernel_rfl))) ?_
  intro W base args ds gs before hval0 hW _ _ hXw _
  have hval : ∀ (j : Nat) t v, Tryz.f5.params[j]? = some t → args[j]? = some v → Value.okWide Tryz.prog W .any base t v := hval0
  have hW' := hW
  obtain ⟨p, q, hA0, hV, rfl, hfz, _⟩ := hW
  have hA : DataW.TrodAll enc Tryz.prog W 0 (fun _ => true) true Tryz.f5.params.toList args.toList ds p := hA0
  rw [Tryz.params5] at hA hval
  obtain ⟨v0, d0, rfl, rfl, h0⟩ := trodAll_one hA
  obtain ⟨rfl, rfl⟩ := trodVars_none hV
  simp only [List.append_nil] at hW' hfz
  have hok := hval 0 88 v0 rfl rfl
  have hcs : ∃ cs, v0 = .agg cs ∧ cs.size = 22 := by
    simp only [Value.okWide, Tryz.underlying88] at hok
    obtain ⟨cs, h1, h2, _⟩ := hok
    exact ⟨cs, h1, h2.trans (by kernel_rfl)⟩
  obtain ⟨cs, rfl, hcs⟩ := hcs
  obtain ⟨fuel, htr⟩ := h0
  have hlt := DataW.trod_lt fuel 88 _ _ htr
  have hrd : RdV (fun b => ∃ off, MemPlace.cell b off ∈ p) W dT (fun i => cs[i]?) 0 := by
    have h1 := trod_rdv (Z := fun b => ∃ off, MemPlace.cell b off ∈ p) (KT + 10) fuel dT 88 _ _ _ kindT htr (fun b off hm => ⟨hfz b off hm, off, hm⟩)
    exact h1.congr dT fun i _ => by simp [Value.cells]
  have hglw : GlobW Tryz.prog W glL := by
    rw [MakeChecks.laidMetH_plain _ _ _ (by kernel_rfl)] at hXw
    intro p hp
    simp only [glL, List.mem_cons, List.not_mem_nil, or_false] at hp
    rcases hp with rfl | rfl | rfl
    · exact globW_err (name := "strconv.ErrSyntax") (d := (Rows.topSharedTagsRow.laid.lookup "strconv.ErrSyntax").getD .nil) (Lib.laidMet.reads hXw (mem_lookup (by kernel_rfl))) (by kernel_rfl) (by kernel_rfl) (by kernel_rfl) Tryz.underlying197
    · exact globW_err (name := "strconv.ErrRange") (d := (Rows.topSharedTagsRow.laid.lookup "strconv.ErrRange").getD .nil) (Lib.laidMet.reads hXw (mem_lookup (by kernel_rfl))) (by kernel_rfl) (by kernel_rfl) (by kernel_rfl) Tryz.underlying197
    · exact globW_tab (name := "internal/strconv.uint64pow10") (e := 275) (d := (Rows.topSharedTagsRow.laid.lookup "internal/strconv.uint64pow10").getD .nil) (Lib.laidMet.reads hXw (mem_lookup (by kernel_rfl))) (by kernel_rfl) (by kernel_rfl) (by kernel_rfl) Tryz.underlying293 Tryz.underlying275 (by kernel_rfl) (by kernel_rfl)
  refine (topL W _ cs hcs (fun b ⟨off, hm⟩ => hlt _ hm) hrd hglw).mono fun e W' ⟨he, hg⟩ => ?_
  subst he
  refine ⟨_, rfl, _, _, _, [], p, [], hW', trodAll_mk1 (shut_bool Tryz.underlying4 true), ?_, rfl, keptBut_of_grown hg _, fun h => by cases h⟩
  exact args_stay (kids_rows seat_laidOut seat_maps) seat_sz (fun b hb => hg.block b hb (by simp)) hA (fun t ht => by
    have hT : Nat.blt 88 Tryz.prog.types.size = true := by kernel_rfl
    have : t = 88 := by simpa using ht
    rw [this]; exact Nat.le_of_ble_eq_true hT) _ (fun x hx => by simpa using DataW.TrodAll.lt hA x hx)

set_option maxRecDepth 100000 in
theorem closedL : joinedFacts Tryz.prog 5 Tryz.f5 Rows.topSharedTagsSpec Rows.topSharedTagsRow = true := by
  unfold joinedFacts
  exact (band (band (band (band (band (band (band (band (band (band (band (band (band (band (band (band (band (band (band (band (band (band (band (band (band (band (band (band (band (band (band jf0 seat_jf1) seat_jf2) jf3) jf4) jf5) seat_jf6) jf7) seat_jf8) jf9) jf10) jf11) jf12) jf13) jf14) jf15) jf16) jf17) jf18) jf19) jf20) jf21) jf22) jf23) seat_jf24) seat_jf25) jf26) jf27) jf28) jf29) jf30) jf31)

theorem saidL : Rows.TopSharedTagsSaid :=
  OpenClaim.holds_of_wide 5 Tryz.f5 rfl rfl rfl rfl rfl rfl rfl ⟨rfl, rfl, rfl, rfl, rfl⟩ rfl rfl rfl rfl rfl (by kernel_rfl) Tryz.func5 closedL
    (of_decide_eq_true (by kernel_rfl)) (by unfold Func.isWrapper; first | (rw [if_pos (by decide +kernel)]; kernel_rfl) | (rw [if_neg (by decide +kernel)]; exact ⟨rfl, rfl⟩))
    (fun os started H enc _ => liftedL os started H enc)

theorem cardL : Rows.TopSharedTagsCardSaid :=
  Claim7.holds_tied_plain_at .later [] [.data, .data, .data, .data, .sentinel, .sentinel, .pinned] true (true, "f59ba8cfbc516d8797c87cd9048efa5c5c69abd2dcf0c972abdbe73d0c13de7a") true saidL (fun _ h => by cases h) (by kernel_rfl) (fun _ h => by cases h) topSharedTags_row_tie rfl ⟨rfl, rfl⟩ (by kernel_rfl) rfl
    (fun f fn hf hfn => by
      obtain rfl : f = 5 := Option.some.inj ((show Tryz.prog.funcNamed "pointcode/pointcodetop.TopSharedTags" = some 5 by kernel_rfl).symm.trans hf) |>.symm
      obtain rfl : fn = Tryz.f5 := (Option.some.inj (Tryz.func5.symm.trans hfn)).symm
      exact ⟨by kernel_rfl, fun j t ht => by
        rw [Tryz.params5] at ht
        have hm : t ∈ [88] := by simpa using Array.mem_of_getElem? ht
        have hall : ([88].all fun u => !Tryz.prog.wantsStandIn u) = true := by kernel_rfl
        exact (show Tryz.prog.wantsStandIn t = false by simpa using List.all_eq_true.1 hall t hm)⟩)
    (by kernel_rfl)

end Go.Sx

namespace Go.Proofs.YtadhlkgjiccdpaaGreatDoor

theorem tags_card : Rows.TopSharedTagsCardSaid := Go.Sx.cardL

end Go.Proofs.YtadhlkgjiccdpaaGreatDoor
