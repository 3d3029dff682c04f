/- For every input the law TopSharedFrames returns true and leaves its argument as it was; no conditions. -/
import Derived.Test.YtiecagflhhmfnaaDoorFraP
import Derived.Test.YtiecagflhhmfnaaDoorFraC
import Derived.Test.YtiecagflhhmfnaaDoorR
import Derived.Test.YtiecagflhhmfnaaDoorProg
import Derived.WalkKit
import Derived.WalkSpells
import Derived.StillTactics
import Derived.OwnWalk
import Derived.Laws.Pointers
import Derived.Deep.RegionLaw
import Derived.Deep.AppendLies
import Derived.Deep.LoopGhost
import Derived.KernelRfl
import Derived.Test.YtiecagflhhmfnaaDoorT
import Derived.Test.YtiecagflhhmfnaaDoorFraF
import Derived.Test.YtiecagflhhmfnaaDoorL

namespace Go.Sx
open Go Go.Proofs

theorem fillL : Instr.fill (fun i => some (i * 1, 1)) ((Array.range (4 * 1)).map fun i => (Value.nilFunc).cells[i % (Value.nilFunc).cells.size]!) [(0, .func (.func 89) #[] #[]), (1, .func (.func 92) #[] #[]), (2, .func (.func 95) #[] #[]), (3, .func (.func 98) #[] #[])] = some #[.func (.func 89) #[] #[], .func (.func 92) #[] #[], .func (.func 95) #[] #[], .func (.func 98) #[] #[]] := by kernel_rfl

theorem topu : Tryd.prog.underlying 158 = some (.slice 156) := Tryd.underlying158
theorem topsz : sizeAt Tryd.prog 156 = some 1 := by kernel_rfl
theorem topz : zeroAt Tryd.prog 156 = some .nilFunc := by kernel_rfl

set_option maxRecDepth 100000 in
set_option maxHeartbeats 1600000 in
theorem topL (w : World) (Z : Nat → Prop) (cs : Array Value) (hcs : cs.size = 3) (hZ : ∀ b, Z b → b < w.heap.size) (hrd : RdV Z w dT (fun i => cs[i]?) 0) (hgl : GlobW Tryd.prog w glL) :
    Calls Tryd.prog 9 #[.agg cs] w fun e w' => e = .returned (.bool true) ∧ w.grownBy w' none := by
  have hw1 := alloc_size w (.cells cs 150)
  have hg2 := grown_trans (grown_alloc w (.cells cs 150)) (grown_alloc (w.alloc (.cells cs 150)) (.cells #[.func (.func 89) #[] #[], .func (.func 92) #[] #[], .func (.func 95) #[] #[], .func (.func 98) #[] #[]] 156))
  have hs2 := alloc_size (w.alloc (.cells cs 150)) (.cells #[.func (.func 89) #[] #[], .func (.func 92) #[] #[], .func (.func 95) #[] #[], .func (.func 98) #[] #[]] 156)
  have hb2 : ((w.alloc (.cells cs 150)).alloc (.cells #[.func (.func 89) #[] #[], .func (.func 92) #[] #[], .func (.func 95) #[] #[], .func (.func 98) #[] #[]] 156)).heap[w.heap.size + 1]? = some (.cells #[.func (.func 89) #[] #[], .func (.func 92) #[] #[], .func (.func 95) #[] #[], .func (.func 98) #[] #[]] 156 (0, 0)) := by rw [alloc_get, if_pos hw1.symm]
  have hap := apartL ((w.alloc (.cells cs 150)).alloc (.cells #[.func (.func 89) #[] #[], .func (.func 92) #[] #[], .func (.func 95) #[] #[], .func (.func 98) #[] #[]] 156)) Z cs (.slice (some ⟨w.heap.size + 1, 0, none⟩) 4 4) [89, 92, 95, 98] hcs
    (fun b hb => by have := hZ b hb; omega) (hrd.same (fun b hb => hg2.block b (hZ b hb) (by simp)) dT)
    ⟨w.heap.size + 1, 4, rfl, by omega, fun i f h => by
      rw [cell?_blk hb2]
      match i, h with
      | 0, h => cases h; rfl
      | 1, h => cases h; rfl
      | 2, h => cases h; rfl
      | 3, h => cases h; rfl⟩
    (fun f hf => by
      simp only [List.mem_cons, List.not_mem_nil, or_false] at hf
      rcases hf with rfl | rfl | rfl | rfl
      · exact ⟨call89, by kernel_rfl⟩
      · exact ⟨call92, by kernel_rfl⟩
      · exact ⟨call95, by kernel_rfl⟩
      · exact ⟨call98, by kernel_rfl⟩
    ) (by simp) (hgl.grown hg2)
  have hx1 : (w.alloc (.cells cs 150)).heap[w.heap.size]? = some (.cells cs 150 (0, 0)) := by rw [alloc_get, if_pos rfl]
  have hx2 : ((w.alloc (.cells cs 150)).alloc (.cells #[.func (.func 89) #[] #[], .func (.func 92) #[] #[], .func (.func 95) #[] #[], .func (.func 98) #[] #[]] 156)).heap[w.heap.size]? = some (.cells cs 150 (0, 0)) := by rw [alloc_get, if_neg (by omega), alloc_get, if_pos rfl]
  have hagT : aggOf Tryd.prog 150 = some true := by kernel_rfl
  have hszT : sizeAt Tryd.prog 150 = some 3 := by kernel_rfl
  go_enter Tryd.func9, Tryd.ntmps9
  go_wp2_with (first
    | (refine wpList_buildFs rfl 158 4 _ rfl 156 topu topsz topz #[.func (.func 89) #[] #[], .func (.func 92) #[] #[], .func (.func 95) #[] #[], .func (.func 98) #[] #[]] (by omega) (by omega) [(0, .func (.func 89) #[] #[]), (1, .func (.func 92) #[] #[]), (2, .func (.func 95) #[] #[]), (3, .func (.func 98) #[] #[])] rfl fillL ?_)
    | (refine wpList_load_agg rfl 150 _ rfl hagT 3 hszT w.heap.size rfl cs 150 (by first | exact hx1 | exact hx2) hcs ?_)
    | (refine hap.mono ?_
       clear hap
       rintro e w3 ⟨rfl, hg3⟩)
    | (refine (rings18 _).mono ?_
       rintro e w4 ⟨rfl, hg4⟩))
  go_ret
  exact ⟨rfl, grown_trans (grown_trans hg2 hg3) hg4⟩

end Go.Sx

namespace Go.Sx
open Go Go.Proofs

open Go.ChangeShapes Go.WideShapes Go.ChangeAt Go.RowKit
open Go.Proofs.YtiecagflhhmfnaaDoor

set_option maxRecDepth 100000 in
theorem liftedL (os : Os) (started : os.Started) (H : Type) (enc : TypeId × Value → H) :
    ReturnsInHanded {} Tryd.checked os 9 .any (fun w args => (Rows.topSharedFramesSpec.pre enc Tryd.prog Tryd.f9 [] false w args ∧ laidMetH Tryd.prog Rows.topSharedFramesRow.laid w) ∧ sizedMet enc Tryd.prog Tryd.f9 (OpenSpec.ofChange Rows.topSharedFramesSpec) false w args)
      (Rows.topSharedFramesSpec.post enc Tryd.prog Tryd.f9 false true false false) := by
  refine returnsInHanded_of_change_and (C := Tryd.checked) (X := fun w _ => laidMetH Tryd.prog Rows.topSharedFramesRow.laid w) (fun _ _ _ hh h => h.of_heap hh) seat_own started (by kernel_rfl) Tryd.func9
    (ChangeSpec.witness_shaped (enc := enc) (C := Tryd.checked) (os := os) (X := fun w _ => laidMetH Tryd.prog Rows.topSharedFramesRow.laid w) false (World.laidAll Tryd.prog os Rows.topSharedFramesRow.laid) #[(zeroAt Tryd.prog 150).getD default] 8 (World.laidAll_os _ _ _)
      (World.shaped_of_ZipB (by kernel_rfl) (by kernel_rfl)) (by kernel_rfl) (by kernel_rfl) (by kernel_rfl)
      (by rw [MakeChecks.laidMetH_plain _ _ _ (by kernel_rfl)]; exact laidMet_laidAll _ (by kernel_rfl) (by kernel_rfl))) ?_
  intro W base args ds gs before hval0 hW _ _ hXw _
  have hval : ∀ (j : Nat) t v, Tryd.f9.params[j]? = some t → args[j]? = some v → Value.okWide Tryd.prog W .any base t v := hval0
  have hW' := hW
  obtain ⟨p, q, hA0, hV, rfl, hfz, _⟩ := hW
  have hA : DataW.TrodAll enc Tryd.prog W 0 (fun _ => true) true Tryd.f9.params.toList args.toList ds p := hA0
  rw [Tryd.params9] at hA hval
  obtain ⟨v0, d0, rfl, rfl, h0⟩ := trodAll_one hA
  obtain ⟨rfl, rfl⟩ := trodVars_none hV
  simp only [List.append_nil] at hW' hfz
  have hok := hval 0 150 v0 rfl rfl
  have hcs : ∃ cs, v0 = .agg cs ∧ cs.size = 3 := by
    simp only [Value.okWide, Tryd.underlying150] at hok
    obtain ⟨cs, h1, h2, _⟩ := hok
    exact ⟨cs, h1, h2.trans (by kernel_rfl)⟩
  obtain ⟨cs, rfl, hcs⟩ := hcs
  obtain ⟨fuel, htr⟩ := h0
  have hlt := DataW.trod_lt fuel 150 _ _ htr
  have hrd : RdV (fun b => ∃ off, MemPlace.cell b off ∈ p) W dT (fun i => cs[i]?) 0 := by
    have h1 := trod_rdv (Z := fun b => ∃ off, MemPlace.cell b off ∈ p) 8 fuel dT 150 _ _ _ (by kernel_rfl) htr (fun b off hm => ⟨hfz b off hm, off, hm⟩)
    exact h1.congr dT fun i _ => by simp [Value.cells]
  have hglw : GlobW Tryd.prog W glL := by
    rw [MakeChecks.laidMetH_plain _ _ _ (by kernel_rfl)] at hXw
    intro p hp
    simp only [glL, List.mem_cons, List.not_mem_nil, or_false] at hp
    rcases hp with rfl
    · exact globW_arr (name := "pointcode/frames.flag") (e := 5) (d := (Rows.topSharedFramesRow.laid.lookup "pointcode/frames.flag").getD .nil) (Lib.laidMet.reads hXw (mem_lookup (by kernel_rfl))) (by kernel_rfl) (by kernel_rfl) Tryd.underlying264 Tryd.underlying5 (by kernel_rfl) (by kernel_rfl) (by decide) (by decide)
  refine (topL W _ cs hcs (fun b ⟨off, hm⟩ => hlt _ hm) hrd hglw).mono fun e W' ⟨he, hg⟩ => ?_
  subst he
  refine ⟨_, rfl, _, _, _, [], p, [], hW', trodAll_mk1 (shut_bool Tryd.underlying4 true), ?_, rfl, keptBut_of_grown hg _, fun h => by cases h⟩
  exact args_stay (kids_rows seat_laidOut seat_maps) seat_sz (fun b hb => hg.block b hb (by simp)) hA (fun t ht => by
    have hT : Nat.blt 150 Tryd.prog.types.size = true := by kernel_rfl
    have : t = 150 := by simpa using ht
    rw [this]; exact Nat.le_of_ble_eq_true hT) _ (fun x hx => by simpa using DataW.TrodAll.lt hA x hx)

set_option maxRecDepth 100000 in
theorem closedL : joinedFacts Tryd.prog 9 Tryd.f9 Rows.topSharedFramesSpec Rows.topSharedFramesRow = true := by
  unfold joinedFacts
  exact (band (band (band (band (band (band (band (band (band (band (band (band (band (band (band (band (band (band (band (band (band (band (band (band (band (band (band (band (band (band (band jf0 seat_jf1) seat_jf2) jf3) jf4) jf5) seat_jf6) jf7) seat_jf8) jf9) jf10) jf11) jf12) jf13) jf14) jf15) jf16) jf17) jf18) jf19) jf20) jf21) jf22) jf23) seat_jf24) seat_jf25) jf26) jf27) jf28) jf29) jf30) jf31)

theorem saidL : Rows.TopSharedFramesSaid :=
  OpenClaim.holds_of_wide 9 Tryd.f9 rfl rfl rfl rfl rfl rfl rfl ⟨rfl, rfl, rfl, rfl, rfl⟩ rfl rfl rfl rfl rfl (by kernel_rfl) Tryd.func9 closedL
    (of_decide_eq_true (by kernel_rfl)) (by unfold Func.isWrapper; first | (rw [if_pos (by decide +kernel)]; kernel_rfl) | (rw [if_neg (by decide +kernel)]; exact ⟨rfl, rfl⟩))
    (fun os started H enc _ => liftedL os started H enc)

theorem cardL : Rows.TopSharedFramesCardSaid :=
  Claim7.holds_tied_plain_at .later [] [.data, .widerDeep, .pinned] true (true, "0f0b7de1b324808f4fcb5ed897616b417999e6a9439677bed79f5e4e26f1e337") true saidL (fun _ h => by cases h) (by kernel_rfl) (fun _ h => by cases h) topSharedFrames_row_tie rfl ⟨rfl, rfl⟩ (by kernel_rfl) rfl
    (fun f fn hf hfn => by
      obtain rfl : f = 9 := Option.some.inj ((show Tryd.prog.funcNamed "pointcode/pointcodetop.TopSharedFrames" = some 9 by kernel_rfl).symm.trans hf) |>.symm
      obtain rfl : fn = Tryd.f9 := (Option.some.inj (Tryd.func9.symm.trans hfn)).symm
      exact ⟨by kernel_rfl, fun j t ht => by
        rw [Tryd.params9] at ht
        have hm : t ∈ [150] := by simpa using Array.mem_of_getElem? ht
        have hall : ([150].all fun u => !Tryd.prog.wantsStandIn u) = true := by kernel_rfl
        exact (show Tryd.prog.wantsStandIn t = false by simpa using List.all_eq_true.1 hall t hm)⟩)
    (by kernel_rfl)

end Go.Sx

namespace Go.Proofs.YtiecagflhhmfnaaDoor

theorem frames_card : Rows.TopSharedFramesCardSaid := Go.Sx.cardL

end Go.Proofs.YtiecagflhhmfnaaDoor
