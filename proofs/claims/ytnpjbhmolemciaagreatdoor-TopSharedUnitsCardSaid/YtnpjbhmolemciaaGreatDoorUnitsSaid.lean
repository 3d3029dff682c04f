/- For every input the law TopSharedUnits returns true and leaves its argument as it was; no conditions. -/
import Derived.Test.YtnpjbhmolemciaaGreatDoorUniP
import Derived.Test.YtnpjbhmolemciaaGreatDoorUniC
import Derived.Test.YtnpjbhmolemciaaGreatDoorR
import Derived.Test.YtnpjbhmolemciaaGreatDoorProg
import Derived.WalkKit
import Derived.WalkSpells
import Derived.StillTactics
import Derived.OwnWalk
import Derived.Laws.Pointers
import Derived.Deep.RegionLaw
import Derived.Deep.AppendLies
import Derived.Deep.LoopGhost
import Derived.KernelRfl
import Derived.Test.YtnpjbhmolemciaaGreatDoorT
import Derived.Test.YtnpjbhmolemciaaGreatDoorUniF
import Derived.Test.YtnpjbhmolemciaaGreatDoorLB
import Derived.Test.YtnpjbhmolemciaaGreatDoorLT

set_option linter.unusedSimpArgs false
set_option linter.unusedVariables false

namespace Go.Sx
open Go Go.Proofs

theorem fillL : Instr.fill (fun i => some (i * 1, 1)) ((Array.range (5 * 1)).map fun i => (Value.nilFunc).cells[i % (Value.nilFunc).cells.size]!) [(0, .func (.func 40) #[] #[]), (1, .func (.func 42) #[] #[]), (2, .func (.func 45) #[] #[]), (3, .func (.func 49) #[] #[]), (4, .func (.func 51) #[] #[])] = some #[.func (.func 40) #[] #[], .func (.func 42) #[] #[], .func (.func 45) #[] #[], .func (.func 49) #[] #[], .func (.func 51) #[] #[]] := by kernel_rfl

theorem topu : Tryz.prog.underlying 75 = some (.slice 67) := Tryz.underlying75
theorem topsz : sizeAt Tryz.prog 67 = some 1 := by kernel_rfl
theorem topz : zeroAt Tryz.prog 67 = some .nilFunc := by kernel_rfl

set_option maxRecDepth 100000 in
set_option maxHeartbeats 1600000 in
theorem topL (w : World) (Z : Nat → Prop) (cs : Array Value) (hcs : cs.size = 26) (hZ : ∀ b, Z b → b < w.heap.size) (hrd : RdV Z w dT (fun i => cs[i]?) 0) (hgl : GlobW Tryz.prog w glL) :
    Calls Tryz.prog 4 #[.agg cs] w fun e w' => e = .returned (.bool true) ∧ w.grownBy w' none := by
  have hw1 := alloc_size w (.cells cs 61)
  have hg2 := grown_trans (grown_alloc w (.cells cs 61)) (grown_alloc (w.alloc (.cells cs 61)) (.cells #[.func (.func 40) #[] #[], .func (.func 42) #[] #[], .func (.func 45) #[] #[], .func (.func 49) #[] #[], .func (.func 51) #[] #[]] 67))
  have hs2 := alloc_size (w.alloc (.cells cs 61)) (.cells #[.func (.func 40) #[] #[], .func (.func 42) #[] #[], .func (.func 45) #[] #[], .func (.func 49) #[] #[], .func (.func 51) #[] #[]] 67)
  have hb2 : ((w.alloc (.cells cs 61)).alloc (.cells #[.func (.func 40) #[] #[], .func (.func 42) #[] #[], .func (.func 45) #[] #[], .func (.func 49) #[] #[], .func (.func 51) #[] #[]] 67)).heap[w.heap.size + 1]? = some (.cells #[.func (.func 40) #[] #[], .func (.func 42) #[] #[], .func (.func 45) #[] #[], .func (.func 49) #[] #[], .func (.func 51) #[] #[]] 67 (0, 0)) := by rw [alloc_get, if_pos hw1.symm]
  have hap := apartL ((w.alloc (.cells cs 61)).alloc (.cells #[.func (.func 40) #[] #[], .func (.func 42) #[] #[], .func (.func 45) #[] #[], .func (.func 49) #[] #[], .func (.func 51) #[] #[]] 67)) Z cs (.slice (some ⟨w.heap.size + 1, 0, none⟩) 5 5) [40, 42, 45, 49, 51] hcs
    (fun b hb => by have := hZ b hb; omega) (hrd.same (fun b hb => hg2.block b (hZ b hb) (by simp)) dT)
    ⟨w.heap.size + 1, 5, rfl, by omega, fun i f h => by
      rw [cell?_blk hb2]
      match i, h with
      | 0, h => cases h; rfl
      | 1, h => cases h; rfl
      | 2, h => cases h; rfl
      | 3, h => cases h; rfl
      | 4, h => cases h; rfl⟩
    (fun f hf => by
      simp only [List.mem_cons, List.not_mem_nil, or_false] at hf
      rcases hf with rfl | rfl | rfl | rfl | rfl
      · exact ⟨call40, by kernel_rfl⟩
      · exact ⟨call42, by kernel_rfl⟩
      · exact ⟨call45, by kernel_rfl⟩
      · exact ⟨call49, by kernel_rfl⟩
      · exact ⟨call51, by kernel_rfl⟩
    ) (by simp) (hgl.grown hg2)
  have hx1 : (w.alloc (.cells cs 61)).heap[w.heap.size]? = some (.cells cs 61 (0, 0)) := by rw [alloc_get, if_pos rfl]
  have hx2 : ((w.alloc (.cells cs 61)).alloc (.cells #[.func (.func 40) #[] #[], .func (.func 42) #[] #[], .func (.func 45) #[] #[], .func (.func 49) #[] #[], .func (.func 51) #[] #[]] 67)).heap[w.heap.size]? = some (.cells cs 61 (0, 0)) := by rw [alloc_get, if_neg (by omega), alloc_get, if_pos rfl]
  have hagT : aggOf Tryz.prog 61 = some true := by kernel_rfl
  have hszT : sizeAt Tryz.prog 61 = some 26 := by kernel_rfl
  go_enter Tryz.func4, Tryz.ntmps4
  go_wp2_with (first
    | (refine wpList_buildFs rfl 75 5 _ rfl 67 topu topsz topz #[.func (.func 40) #[] #[], .func (.func 42) #[] #[], .func (.func 45) #[] #[], .func (.func 49) #[] #[], .func (.func 51) #[] #[]] (by omega) (by omega) [(0, .func (.func 40) #[] #[]), (1, .func (.func 42) #[] #[]), (2, .func (.func 45) #[] #[]), (3, .func (.func 49) #[] #[]), (4, .func (.func 51) #[] #[])] rfl fillL ?_)
    | (refine wpList_load_agg rfl 61 _ rfl hagT 26 hszT w.heap.size rfl cs 61 (by first | exact hx1 | exact hx2) hcs ?_)
    | (refine hap.mono ?_
       clear hap
       rintro e w3 ⟨rfl, hg3⟩)
    | (refine (rings36 _).mono ?_
       rintro e w4 ⟨rfl, hg4⟩))
  go_ret
  exact ⟨rfl, grown_trans (grown_trans hg2 hg3) hg4⟩

end Go.Sx

namespace Go.Sx
open Go Go.Proofs

open Go.ChangeShapes Go.WideShapes Go.ChangeAt Go.RowKit
open Go.Proofs.YtnpjbhmolemciaaGreatDoor

set_option maxRecDepth 100000 in
theorem liftedL (os : Os) (started : os.Started) (H : Type) (enc : TypeId × Value → H) :
    ReturnsInHanded {} Tryz.checked os 4 .any (fun w args => (Rows.topSharedUnitsSpec.pre enc Tryz.prog Tryz.f4 [] false w args ∧ laidMetH Tryz.prog Rows.topSharedUnitsRow.laid w) ∧ sizedMet enc Tryz.prog Tryz.f4 (OpenSpec.ofChange Rows.topSharedUnitsSpec) false w args)
      (Rows.topSharedUnitsSpec.post enc Tryz.prog Tryz.f4 false true false false) := by
  refine returnsInHanded_of_change_and (C := Tryz.checked) (X := fun w _ => laidMetH Tryz.prog Rows.topSharedUnitsRow.laid w) (fun _ _ _ hh h => h.of_heap hh) seat_own started (by kernel_rfl) Tryz.func4
    (ChangeSpec.witness_shaped (enc := enc) (C := Tryz.checked) (os := os) (X := fun w _ => laidMetH Tryz.prog Rows.topSharedUnitsRow.laid w) false (World.laidAll Tryz.prog os Rows.topSharedUnitsRow.laid) #[(zeroAt Tryz.prog 61).getD default] 8 (World.laidAll_os _ _ _)
      (World.shaped_of_ZipB (by kernel_rfl) (by kernel_rfl)) (by kernel_rfl) (by kernel_rfl) (by kernel_rfl)
      (by rw [MakeChecks.laidMetH_plain _ _ _ (by kernel_rfl)]; exact laidMet_laidAll _ (by kernel_rfl) (by kernel_rfl))) ?_
  intro W base args ds gs before hval0 hW _ _ hXw _
  have hval : ∀ (j : Nat) t v, Tryz.f4.params[j]? = some t → args[j]? = some v → Value.okWide Tryz.prog W .any base t v := hval0
  have hW' := hW
  obtain ⟨p, q, hA0, hV, rfl, hfz, _⟩ := hW
  have hA : DataW.TrodAll enc Tryz.prog W 0 (fun _ => true) true Tryz.f4.params.toList args.toList ds p := hA0
  rw [Tryz.params4] at hA hval
  obtain ⟨v0, d0, rfl, rfl, h0⟩ := trodAll_one hA
  obtain ⟨rfl, rfl⟩ := trodVars_none hV
  simp only [List.append_nil] at hW' hfz
  have hok := hval 0 61 v0 rfl rfl
  have hcs : ∃ cs, v0 = .agg cs ∧ cs.size = 26 := by
    simp only [Value.okWide, Tryz.underlying61] at hok
    obtain ⟨cs, h1, h2, _⟩ := hok
    exact ⟨cs, h1, h2.trans (by kernel_rfl)⟩
  obtain ⟨cs, rfl, hcs⟩ := hcs
  obtain ⟨fuel, htr⟩ := h0
  have hlt := DataW.trod_lt fuel 61 _ _ htr
  have hrd : RdV (fun b => ∃ off, MemPlace.cell b off ∈ p) W dT (fun i => cs[i]?) 0 := by
    have h1 := trod_rdv (Z := fun b => ∃ off, MemPlace.cell b off ∈ p) 8 fuel dT 61 _ _ _ (by kernel_rfl) htr (fun b off hm => ⟨hfz b off hm, off, hm⟩)
    exact h1.congr dT fun i _ => by simp [Value.cells]
  have hglw : GlobW Tryz.prog W glL := by
    rw [MakeChecks.laidMetH_plain _ _ _ (by kernel_rfl)] at hXw
    intro p hp
    simp only [glL, List.mem_cons, List.not_mem_nil, or_false] at hp
    rcases hp with rfl
    · exact globW_tab (name := "internal/strconv.uint64pow10") (e := 23) (d := (Rows.topSharedUnitsRow.laid.lookup "internal/strconv.uint64pow10").getD .nil) (Lib.laidMet.reads hXw (mem_lookup (by kernel_rfl))) (by kernel_rfl) (by kernel_rfl) (by kernel_rfl) Tryz.underlying186 Tryz.underlying23 (by kernel_rfl) (by kernel_rfl)
  refine (topL W _ cs hcs (fun b ⟨off, hm⟩ => hlt _ hm) hrd hglw).mono fun e W' ⟨he, hg⟩ => ?_
  subst he
  refine ⟨_, rfl, _, _, _, [], p, [], hW', trodAll_mk1 (shut_bool Tryz.underlying4 true), ?_, rfl, keptBut_of_grown hg _, fun h => by cases h⟩
  exact args_stay (kids_rows seat_laidOut seat_maps) seat_sz (fun b hb => hg.block b hb (by simp)) hA (fun t ht => by
    have hT : Nat.blt 61 Tryz.prog.types.size = true := by kernel_rfl
    have : t = 61 := by simpa using ht
    rw [this]; exact Nat.le_of_ble_eq_true hT) _ (fun x hx => by simpa using DataW.TrodAll.lt hA x hx)

set_option maxRecDepth 100000 in
theorem closedL : joinedFacts Tryz.prog 4 Tryz.f4 Rows.topSharedUnitsSpec Rows.topSharedUnitsRow = true := by
  unfold joinedFacts
  exact (band (band (band (band (band (band (band (band (band (band (band (band (band (band (band (band (band (band (band (band (band (band (band (band (band (band (band (band (band (band (band jf0 seat_jf1) seat_jf2) jf3) jf4) jf5) seat_jf6) jf7) seat_jf8) jf9) jf10) jf11) jf12) jf13) jf14) jf15) jf16) jf17) jf18) jf19) jf20) jf21) jf22) jf23) seat_jf24) seat_jf25) jf26) jf27) jf28) jf29) jf30) jf31)

theorem saidL : Rows.TopSharedUnitsSaid :=
  OpenClaim.holds_of_wide 4 Tryz.f4 rfl rfl rfl rfl rfl rfl rfl ⟨rfl, rfl, rfl, rfl, rfl⟩ rfl rfl rfl rfl rfl (by kernel_rfl) Tryz.func4 closedL
    (of_decide_eq_true (by kernel_rfl)) (by unfold Func.isWrapper; first | (rw [if_pos (by decide +kernel)]; kernel_rfl) | (rw [if_neg (by decide +kernel)]; exact ⟨rfl, rfl⟩))
    (fun os started H enc _ => liftedL os started H enc)

theorem cardL : Rows.TopSharedUnitsCardSaid :=
  Claim7.holds_tied_plain_at .later [] [.data, .data, .data, .data, .pinned] true (true, "73036cbce305e9eaa38d36ca2e2552e834d08501a7d44db71dd9f724c8c4e935") false saidL (fun _ h => by cases h) (by kernel_rfl) (fun _ h => by cases h) topSharedUnits_row_tie rfl ⟨rfl, rfl⟩ (by kernel_rfl) rfl
    (fun f fn hf hfn => by
      obtain rfl : f = 4 := Option.some.inj ((show Tryz.prog.funcNamed "pointcode/pointcodetop.TopSharedUnits" = some 4 by kernel_rfl).symm.trans hf) |>.symm
      obtain rfl : fn = Tryz.f4 := (Option.some.inj (Tryz.func4.symm.trans hfn)).symm
      exact ⟨by kernel_rfl, fun j t ht => by
        rw [Tryz.params4] at ht
        have hm : t ∈ [61] := by simpa using Array.mem_of_getElem? ht
        have hall : ([61].all fun u => !Tryz.prog.wantsStandIn u) = true := by kernel_rfl
        exact (show Tryz.prog.wantsStandIn t = false by simpa using List.all_eq_true.1 hall t hm)⟩)
    (by kernel_rfl)

end Go.Sx

namespace Go.Proofs.YtnpjbhmolemciaaGreatDoor

theorem units_card : Rows.TopSharedUnitsCardSaid := Go.Sx.cardL

end Go.Proofs.YtnpjbhmolemciaaGreatDoor
