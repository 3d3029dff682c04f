/- For every input the law TopSharedTitles returns true and leaves its argument as it was; no conditions. -/
import Derived.Test.YtnnaehcmchndmaaGreatDoorTitP
import Derived.Test.YtnnaehcmchndmaaGreatDoorTitC
import Derived.Test.YtnnaehcmchndmaaGreatDoorR
import Derived.Test.YtnnaehcmchndmaaGreatDoorProg
import Derived.WalkKit
import Derived.WalkSpells
import Derived.StillTactics
import Derived.OwnWalk
import Derived.Laws.Pointers
import Derived.Deep.RegionLaw
import Derived.Deep.AppendLies
import Derived.Deep.LoopGhost
import Derived.KernelRfl
import Derived.Test.YtnnaehcmchndmaaGreatDoorT
import Derived.Test.YtnnaehcmchndmaaGreatDoorTitF
import Derived.Test.YtnnaehcmchndmaaGreatDoorLB
import Derived.Test.YtnnaehcmchndmaaGreatDoorLT
import Derived.Test.YtnnaehcmchndmaaGreatDoorLS

set_option linter.unusedSimpArgs false
set_option linter.unusedVariables false

namespace Go.Sx
open Go Go.Proofs

theorem fillL : Instr.fill (fun i => some (i * 1, 1)) ((Array.range (8 * 1)).map fun i => (Value.nilFunc).cells[i % (Value.nilFunc).cells.size]!) [(0, .func (.func 92) #[] #[]), (1, .func (.func 96) #[] #[]), (2, .func (.func 98) #[] #[]), (3, .func (.func 100) #[] #[]), (4, .func (.func 102) #[] #[]), (5, .func (.func 106) #[] #[]), (6, .func (.func 108) #[] #[]), (7, .func (.func 110) #[] #[])] = some #[.func (.func 92) #[] #[], .func (.func 96) #[] #[], .func (.func 98) #[] #[], .func (.func 100) #[] #[], .func (.func 102) #[] #[], .func (.func 106) #[] #[], .func (.func 108) #[] #[], .func (.func 110) #[] #[]] := by kernel_rfl

theorem topu : Tryz.prog.underlying 168 = some (.slice 150) := Tryz.underlying168
theorem topsz : sizeAt Tryz.prog 150 = some 1 := by kernel_rfl
theorem topz : zeroAt Tryz.prog 150 = some .nilFunc := by kernel_rfl

set_option maxRecDepth 100000 in
set_option maxHeartbeats 1600000 in
theorem topL (w : World) (Z : Nat → Prop) (cs : Array Value) (hcs : cs.size = 3) (hZ : ∀ b, Z b → b < w.heap.size) (hrd : RdV Z w dT (fun i => cs[i]?) 0) (hgl : GlobW Tryz.prog w glL) :
    Calls Tryz.prog 6 #[.agg cs] w fun e w' => e = .returned (.bool true) ∧ w.grownBy w' none := by
  have hw1 := alloc_size w (.cells cs 141)
  have hg2 := grown_trans (grown_alloc w (.cells cs 141)) (grown_alloc (w.alloc (.cells cs 141)) (.cells #[.func (.func 92) #[] #[], .func (.func 96) #[] #[], .func (.func 98) #[] #[], .func (.func 100) #[] #[], .func (.func 102) #[] #[], .func (.func 106) #[] #[], .func (.func 108) #[] #[], .func (.func 110) #[] #[]] 150))
  have hs2 := alloc_size (w.alloc (.cells cs 141)) (.cells #[.func (.func 92) #[] #[], .func (.func 96) #[] #[], .func (.func 98) #[] #[], .func (.func 100) #[] #[], .func (.func 102) #[] #[], .func (.func 106) #[] #[], .func (.func 108) #[] #[], .func (.func 110) #[] #[]] 150)
  have hb2 : ((w.alloc (.cells cs 141)).alloc (.cells #[.func (.func 92) #[] #[], .func (.func 96) #[] #[], .func (.func 98) #[] #[], .func (.func 100) #[] #[], .func (.func 102) #[] #[], .func (.func 106) #[] #[], .func (.func 108) #[] #[], .func (.func 110) #[] #[]] 150)).heap[w.heap.size + 1]? = some (.cells #[.func (.func 92) #[] #[], .func (.func 96) #[] #[], .func (.func 98) #[] #[], .func (.func 100) #[] #[], .func (.func 102) #[] #[], .func (.func 106) #[] #[], .func (.func 108) #[] #[], .func (.func 110) #[] #[]] 150 (0, 0)) := by rw [alloc_get, if_pos hw1.symm]
  have hap := apartL ((w.alloc (.cells cs 141)).alloc (.cells #[.func (.func 92) #[] #[], .func (.func 96) #[] #[], .func (.func 98) #[] #[], .func (.func 100) #[] #[], .func (.func 102) #[] #[], .func (.func 106) #[] #[], .func (.func 108) #[] #[], .func (.func 110) #[] #[]] 150)) Z cs (.slice (some ⟨w.heap.size + 1, 0, none⟩) 8 8) [92, 96, 98, 100, 102, 106, 108, 110] hcs
    (fun b hb => by have := hZ b hb; omega) (hrd.same (fun b hb => hg2.block b (hZ b hb) (by simp)) dT)
    ⟨w.heap.size + 1, 8, rfl, by omega, fun i f h => by
      rw [cell?_blk hb2]
      match i, h with
      | 0, h => cases h; rfl
      | 1, h => cases h; rfl
      | 2, h => cases h; rfl
      | 3, h => cases h; rfl
      | 4, h => cases h; rfl
      | 5, h => cases h; rfl
      | 6, h => cases h; rfl
      | 7, h => cases h; rfl⟩
    (fun f hf => by
      simp only [List.mem_cons, List.not_mem_nil, or_false] at hf
      rcases hf with rfl | rfl | rfl | rfl | rfl | rfl | rfl | rfl
      · exact ⟨call92, by kernel_rfl⟩
      · exact ⟨call96, by kernel_rfl⟩
      · exact ⟨call98, by kernel_rfl⟩
      · exact ⟨call100, by kernel_rfl⟩
      · exact ⟨call102, by kernel_rfl⟩
      · exact ⟨call106, by kernel_rfl⟩
      · exact ⟨call108, by kernel_rfl⟩
      · exact ⟨call110, by kernel_rfl⟩
    ) (by simp) (hgl.grown hg2)
  have hx1 : (w.alloc (.cells cs 141)).heap[w.heap.size]? = some (.cells cs 141 (0, 0)) := by rw [alloc_get, if_pos rfl]
  have hx2 : ((w.alloc (.cells cs 141)).alloc (.cells #[.func (.func 92) #[] #[], .func (.func 96) #[] #[], .func (.func 98) #[] #[], .func (.func 100) #[] #[], .func (.func 102) #[] #[], .func (.func 106) #[] #[], .func (.func 108) #[] #[], .func (.func 110) #[] #[]] 150)).heap[w.heap.size]? = some (.cells cs 141 (0, 0)) := by rw [alloc_get, if_neg (by omega), alloc_get, if_pos rfl]
  have hagT : aggOf Tryz.prog 141 = some true := by kernel_rfl
  have hszT : sizeAt Tryz.prog 141 = some 3 := by kernel_rfl
  go_enter Tryz.func6, Tryz.ntmps6
  go_wp2_with (first
    | (refine wpList_buildFs rfl 168 8 _ rfl 150 topu topsz topz #[.func (.func 92) #[] #[], .func (.func 96) #[] #[], .func (.func 98) #[] #[], .func (.func 100) #[] #[], .func (.func 102) #[] #[], .func (.func 106) #[] #[], .func (.func 108) #[] #[], .func (.func 110) #[] #[]] (by omega) (by omega) [(0, .func (.func 92) #[] #[]), (1, .func (.func 96) #[] #[]), (2, .func (.func 98) #[] #[]), (3, .func (.func 100) #[] #[]), (4, .func (.func 102) #[] #[]), (5, .func (.func 106) #[] #[]), (6, .func (.func 108) #[] #[]), (7, .func (.func 110) #[] #[])] rfl fillL ?_)
    | (refine wpList_load_agg rfl 141 _ rfl hagT 3 hszT w.heap.size rfl cs 141 (by first | exact hx1 | exact hx2) hcs ?_)
    | (refine hap.mono ?_
       clear hap
       rintro e w3 ⟨rfl, hg3⟩)
    | (refine (rings33 _).mono ?_
       rintro e w4 ⟨rfl, hg4⟩))
  go_ret
  exact ⟨rfl, grown_trans (grown_trans hg2 hg3) hg4⟩

end Go.Sx

namespace Go.Sx
open Go Go.Proofs

open Go.ChangeShapes Go.WideShapes Go.ChangeAt Go.RowKit
open Go.Proofs.YtnnaehcmchndmaaGreatDoor

set_option maxRecDepth 100000 in
theorem liftedL (os : Os) (started : os.Started) (H : Type) (enc : TypeId × Value → H) :
    ReturnsInHanded {} Tryz.checked os 6 .any (fun w args => (Rows.topSharedTitlesSpec.pre enc Tryz.prog Tryz.f6 [] false w args ∧ laidMetH Tryz.prog Rows.topSharedTitlesRow.laid w) ∧ sizedMet enc Tryz.prog Tryz.f6 (OpenSpec.ofChange Rows.topSharedTitlesSpec) false w args)
      (Rows.topSharedTitlesSpec.post enc Tryz.prog Tryz.f6 false true false false) := by
  refine returns_both (C := Tryz.checked) (X := fun w _ => laidMetH Tryz.prog Rows.topSharedTitlesRow.laid w) (fun _ _ _ hh h => h.of_heap hh) seat_own started (by kernel_rfl) Tryz.func6
    (ChangeSpec.witness_shaped (enc := enc) (C := Tryz.checked) (os := os) (X := fun w _ => laidMetH Tryz.prog Rows.topSharedTitlesRow.laid w) false (World.laidAll Tryz.prog os Rows.topSharedTitlesRow.laid) #[(zeroAt Tryz.prog 141).getD default] 8 (World.laidAll_os _ _ _)
      (World.shaped_of_ZipB (by kernel_rfl) (by kernel_rfl)) (by kernel_rfl) (by kernel_rfl) (by kernel_rfl)
      (by rw [MakeChecks.laidMetH_plain _ _ _ (by kernel_rfl)]; exact laidMet_laidAll _ (by kernel_rfl) (by kernel_rfl))) ?_
  intro W base args ds gs before hval0 hW _ _ hXw hsh _
  have hval : ∀ (j : Nat) t v, Tryz.f6.params[j]? = some t → args[j]? = some v → Value.okWide Tryz.prog W .any base t v := hval0
  have hW' := hW
  obtain ⟨p, q, hA0, hV, rfl, hfz, _⟩ := hW
  have hA : DataW.TrodAll enc Tryz.prog W 0 (fun _ => true) true Tryz.f6.params.toList args.toList ds p := hA0
  rw [Tryz.params6] at hA hval
  obtain ⟨v0, d0, rfl, rfl, h0⟩ := trodAll_one hA
  obtain ⟨rfl, rfl⟩ := trodVars_none hV
  simp only [List.append_nil] at hW' hfz
  have hok := hval 0 141 v0 rfl rfl
  have hcs : ∃ cs, v0 = .agg cs ∧ cs.size = 3 := by
    simp only [Value.okWide, Tryz.underlying141] at hok
    obtain ⟨cs, h1, h2, _⟩ := hok
    exact ⟨cs, h1, h2.trans (by kernel_rfl)⟩
  obtain ⟨cs, rfl, hcs⟩ := hcs
  obtain ⟨fuel, htr⟩ := h0
  have hlt := DataW.trod_lt fuel 141 _ _ htr
  have hrd : RdV (fun b => ∃ off, MemPlace.cell b off ∈ p) W dT (fun i => cs[i]?) 0 := by
    have h1 := trod_rdv (Z := fun b => ∃ off, MemPlace.cell b off ∈ p) 8 fuel dT 141 _ _ _ kindT htr (fun b off hm => ⟨hfz b off hm, off, hm⟩)
    exact h1.congr dT fun i _ => by simp [Value.cells]
  have hglw : GlobW Tryz.prog W glL := by
    rw [MakeChecks.laidMetH_plain _ _ _ (by kernel_rfl)] at hXw
    intro p hp
    simp only [glL, List.mem_cons, List.not_mem_nil, or_false] at hp
    rcases hp with rfl | rfl | rfl | rfl
    · exact globW_err (name := "strconv.ErrSyntax") (d := (Rows.topSharedTitlesRow.laid.lookup "strconv.ErrSyntax").getD .nil) (Lib.laidMet.reads hXw (mem_lookup (by kernel_rfl))) (by kernel_rfl) (by kernel_rfl) (by kernel_rfl) Tryz.underlying216
    · exact globW_err (name := "strconv.ErrRange") (d := (Rows.topSharedTitlesRow.laid.lookup "strconv.ErrRange").getD .nil) (Lib.laidMet.reads hXw (mem_lookup (by kernel_rfl))) (by kernel_rfl) (by kernel_rfl) (by kernel_rfl) Tryz.underlying216
    · exact globW_tab (name := "internal/strconv.uint64pow10") (e := 461) (d := (Rows.topSharedTitlesRow.laid.lookup "internal/strconv.uint64pow10").getD .nil) (Lib.laidMet.reads hXw (mem_lookup (by kernel_rfl))) (by kernel_rfl) (by kernel_rfl) (by kernel_rfl) Tryz.underlying502 Tryz.underlying461 (by kernel_rfl) (by kernel_rfl)
    · exact globW_int (t := 3) hsh (((((begin Tryz.prog (fun _ _ => 0) default).world.heap[3]?).bind Obj.row?).map (·.1)).getD #[]) (by decide +kernel) (by kernel_rfl) (by kernel_rfl) (by kernel_rfl) (by kernel_rfl) Tryz.underlying3 (by kernel_rfl) (by kernel_rfl)
  refine (topL W _ cs hcs (fun b ⟨off, hm⟩ => hlt _ hm) hrd hglw).mono fun e W' ⟨he, hg⟩ => ?_
  subst he
  refine ⟨_, rfl, _, _, _, [], p, [], hW', trodAll_mk1 (shut_bool Tryz.underlying4 true), ?_, rfl, keptBut_of_grown hg _, fun h => by cases h⟩
  exact args_stay (kids_rows seat_laidOut seat_maps) seat_sz (fun b hb => hg.block b hb (by simp)) hA (fun t ht => by
    have hT : Nat.blt 141 Tryz.prog.types.size = true := by kernel_rfl
    have : t = 141 := by simpa using ht
    rw [this]; exact Nat.le_of_ble_eq_true hT) _ (fun x hx => by simpa using DataW.TrodAll.lt hA x hx)

set_option maxRecDepth 100000 in
theorem closedL : joinedFacts Tryz.prog 6 Tryz.f6 Rows.topSharedTitlesSpec Rows.topSharedTitlesRow = true := by
  unfold joinedFacts
  exact (band (band (band (band (band (band (band (band (band (band (band (band (band (band (band (band (band (band (band (band (band (band (band (band (band (band (band (band (band (band (band jf0 seat_jf1) seat_jf2) jf3) jf4) jf5) seat_jf6) jf7) seat_jf8) jf9) jf10) jf11) jf12) jf13) jf14) jf15) jf16) jf17) jf18) jf19) jf20) jf21) jf22) jf23) seat_jf24) seat_jf25) jf26) jf27) jf28) jf29) jf30) jf31)

theorem saidL : Rows.TopSharedTitlesSaid :=
  OpenClaim.holds_of_wide 6 Tryz.f6 rfl rfl rfl rfl rfl rfl rfl ⟨rfl, rfl, rfl, rfl, rfl⟩ rfl rfl rfl rfl rfl (by kernel_rfl) Tryz.func6 closedL
    (of_decide_eq_true (by kernel_rfl)) (by unfold Func.isWrapper; first | (rw [if_pos (by decide +kernel)]; kernel_rfl) | (rw [if_neg (by decide +kernel)]; exact ⟨rfl, rfl⟩))
    (fun os started H enc _ => liftedL os started H enc)

theorem cardL1 : Rows.topSharedTitlesRow.wfByText (.ofChange Rows.topSharedTitlesSpec) = true := by kernel_rfl
theorem cardL2 : Tryz.checked.prog.mainIs = some (true, "2a03c1d037a8c15705099de04a27557765d757357c061c7aa88f854ecea67fc6".toList) := by kernel_rfl
theorem cardL3 : Tryz.prog.funcNamed "pointcode/pointcodetop.TopSharedTitles" = some 6 := by kernel_rfl
theorem cardL4 : true = Tryz.checked.prog.looks [] := by kernel_rfl
theorem cardL5 : false = Rows.topSharedTitlesRow.goesBy Tryz.prog := by kernel_rfl

theorem cardL : Rows.TopSharedTitlesCardSaid :=
  Claim7.holds_tied_plain_at .later [] [.data, .data, .data, .data, .sentinel, .sentinel, .pinned] true (true, "2a03c1d037a8c15705099de04a27557765d757357c061c7aa88f854ecea67fc6") true saidL (fun _ h => by cases h) cardL1 (fun _ h => by cases h) topSharedTitles_row_tie rfl ⟨rfl, rfl⟩ cardL2 rfl
    (fun f fn hf hfn => by
      obtain rfl : f = 6 := Option.some.inj (cardL3.symm.trans hf) |>.symm
      obtain rfl : fn = Tryz.f6 := (Option.some.inj (Tryz.func6.symm.trans hfn)).symm
      exact ⟨cardL4, fun j t ht => by
        rw [Tryz.params6] at ht
        have hm : t ∈ [141] := by simpa using Array.mem_of_getElem? ht
        have hall : ([141].all fun u => !Tryz.prog.wantsStandIn u) = true := by kernel_rfl
        exact (show Tryz.prog.wantsStandIn t = false by simpa using List.all_eq_true.1 hall t hm)⟩)
    cardL5

end Go.Sx

namespace Go.Proofs.YtnnaehcmchndmaaGreatDoor

theorem titles_card : Rows.TopSharedTitlesCardSaid := Go.Sx.cardL

end Go.Proofs.YtnnaehcmchndmaaGreatDoor
