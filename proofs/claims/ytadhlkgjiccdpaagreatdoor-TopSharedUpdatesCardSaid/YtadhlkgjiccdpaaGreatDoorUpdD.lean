/- Part UpdD of a proof: helper lemmas; no conditions. -/
import Derived.Test.YtadhlkgjiccdpaaGreatDoorK
import Derived.Test.YtadhlkgjiccdpaaGreatDoorUpdW
import Derived.Test.YtadhlkgjiccdpaaGreatDoorProg
import Derived.KernelRfl
import Derived.OwnWalk
import Derived.Test.YtadhlkgjiccdpaaGreatDoorLB
import Derived.WalkKit
import Derived.WalkSpells
import Derived.StillTactics
import Derived.Laws.Pointers
import Derived.Deep.RegionLaw
import Derived.Deep.AppendLies
import Derived.Deep.LoopGhost

set_option linter.unusedSimpArgs false
set_option linter.unusedVariables false

namespace Go.Sx
open Go Go.Proofs

abbrev dT : D := (.seq (.seq .str (.seq .str (.seq .str (.seq (.int .u16) (.seq (.int .u32) (.seq (.int .u16) .bool)))))) (.seq (.row 5 (.int .u8)) (.seq (.int .i64) (.row 140 (.seq (.int .u16) (.seq (.int .i64) (.row 5 (.int .u8))))))))
abbrev glL : List (Nat × List CT) := []

theorem see88 : SeeOK Tryz.prog 3 9 88 ((.seq .str (.seq .str (.seq .str (.seq (.int .u16) (.seq (.int .u32) (.seq (.int .u16) .bool))))))) :=
  SeeOK.of_code Tryz.func88 rfl Tryz.ntmps88 (by decide) rfl
    (SeeCode.seq rfl (SeeCode.fieldB see122 (by kernel_rfl) (fun x hx => by cases hx; decide) (by kernel_rfl) (by kernel_rfl))
      (SeeCode.seq rfl (SeeCode.fieldB see122 (by kernel_rfl) (fun x hx => by cases hx; decide) (by kernel_rfl) (by kernel_rfl))
      (SeeCode.seq rfl (SeeCode.fieldB see122 (by kernel_rfl) (fun x hx => by cases hx; decide) (by kernel_rfl) (by kernel_rfl))
      (SeeCode.seq rfl (SeeCode.fieldB see142 (by kernel_rfl) (fun x hx => by cases hx; decide) (by kernel_rfl) (by kernel_rfl))
      (SeeCode.seq rfl (SeeCode.fieldB see113 (by kernel_rfl) (fun x hx => by cases hx; decide) (by kernel_rfl) (by kernel_rfl))
      (SeeCode.seq rfl (SeeCode.fieldB see143 (by kernel_rfl) (fun x hx => by cases hx; decide) (by kernel_rfl) (by kernel_rfl))
      (SeeCode.fieldB see99 (by kernel_rfl) (fun x hx => by cases hx; decide) (by kernel_rfl) (by kernel_rfl))))))))

theorem mark88 : MarkOK Tryz.prog 3 9 88 ((.seq .str (.seq .str (.seq .str (.seq (.int .u16) (.seq (.int .u32) (.seq (.int .u16) .bool))))))) :=
  MarkOK.of_code Tryz.func88 rfl Tryz.ntmps88 (by decide) rfl
    (MarkCode.seq (MarkCode.fieldB mark122 (by kernel_rfl) (fun x hx => by cases hx; decide) (by kernel_rfl) (by kernel_rfl))
      (MarkCode.seq (MarkCode.fieldB mark122 (by kernel_rfl) (fun x hx => by cases hx; decide) (by kernel_rfl) (by kernel_rfl))
      (MarkCode.seq (MarkCode.fieldB mark122 (by kernel_rfl) (fun x hx => by cases hx; decide) (by kernel_rfl) (by kernel_rfl))
      (MarkCode.seq (MarkCode.fieldB mark142 (by kernel_rfl) (fun x hx => by cases hx; decide) (by kernel_rfl) (by kernel_rfl))
      (MarkCode.seq (MarkCode.fieldB mark113 (by kernel_rfl) (fun x hx => by cases hx; decide) (by kernel_rfl) (by kernel_rfl))
      (MarkCode.seq (MarkCode.fieldB mark143 (by kernel_rfl) (fun x hx => by cases hx; decide) (by kernel_rfl) (by kernel_rfl))
      (MarkCode.fieldB mark99 (by kernel_rfl) (fun x hx => by cases hx; decide) (by kernel_rfl) (by kernel_rfl))))))))

theorem see12 : SeeOK Tryz.prog 3 9 12 ((.row 5 (.int .u8))) :=
  SeeOK.of_code Tryz.func12 rfl Tryz.ntmps12 (by decide) rfl
    (SeeCode.row (by kernel_rfl) (fun x hx => by cases hx; decide) (by kernel_rfl) Tryz.func95 (by kernel_rfl) (by kernel_rfl) (all95 96 _ Tryz.func96 (by kernel_rfl) (by kernel_rfl) see96))

theorem mark12 : MarkOK Tryz.prog 3 9 12 ((.row 5 (.int .u8))) :=
  MarkOK.of_code Tryz.func12 rfl Tryz.ntmps12 (by decide) rfl
    (MarkCode.row (by kernel_rfl) (fun x hx => by cases hx; decide) (by kernel_rfl) (by kernel_rfl) Tryz.func95 (by kernel_rfl) (by kernel_rfl) (allm95 96 _ Tryz.func96 (by kernel_rfl) (by kernel_rfl) mark96))

theorem see145 : SeeOK Tryz.prog 3 9 145 ((.seq (.int .u16) (.seq (.int .i64) (.row 5 (.int .u8))))) :=
  SeeOK.of_code Tryz.func145 rfl Tryz.ntmps145 (by decide) rfl
    (SeeCode.seq rfl (SeeCode.fieldB see142 (by kernel_rfl) (fun x hx => by cases hx; decide) (by kernel_rfl) (by kernel_rfl))
      (SeeCode.seq rfl (SeeCode.fieldB see177 (by kernel_rfl) (fun x hx => by cases hx; decide) (by kernel_rfl) (by kernel_rfl))
      (SeeCode.fieldB see12 (by kernel_rfl) (fun x hx => by cases hx; decide) (by kernel_rfl) (by kernel_rfl))))

theorem mark145 : MarkOK Tryz.prog 3 9 145 ((.seq (.int .u16) (.seq (.int .i64) (.row 5 (.int .u8))))) :=
  MarkOK.of_code Tryz.func145 rfl Tryz.ntmps145 (by decide) rfl
    (MarkCode.seq (MarkCode.fieldB mark142 (by kernel_rfl) (fun x hx => by cases hx; decide) (by kernel_rfl) (by kernel_rfl))
      (MarkCode.seq (MarkCode.fieldB mark177 (by kernel_rfl) (fun x hx => by cases hx; decide) (by kernel_rfl) (by kernel_rfl))
      (MarkCode.fieldB mark12 (by kernel_rfl) (fun x hx => by cases hx; decide) (by kernel_rfl) (by kernel_rfl))))

theorem see90 : SeeOK Tryz.prog 3 9 90 ((.row 140 (.seq (.int .u16) (.seq (.int .i64) (.row 5 (.int .u8)))))) :=
  SeeOK.of_code Tryz.func90 rfl Tryz.ntmps90 (by decide) rfl
    (SeeCode.row (by kernel_rfl) (fun x hx => by cases hx; decide) (by kernel_rfl) Tryz.func144 (by kernel_rfl) (by kernel_rfl) (all144 145 _ Tryz.func145 (by kernel_rfl) (by kernel_rfl) see145))

theorem mark90 : MarkOK Tryz.prog 3 9 90 ((.row 140 (.seq (.int .u16) (.seq (.int .i64) (.row 5 (.int .u8)))))) :=
  MarkOK.of_code Tryz.func90 rfl Tryz.ntmps90 (by decide) rfl
    (MarkCode.row (by kernel_rfl) (fun x hx => by cases hx; decide) (by kernel_rfl) (by kernel_rfl) Tryz.func144 (by kernel_rfl) (by kernel_rfl) (allm144 145 _ Tryz.func145 (by kernel_rfl) (by kernel_rfl) mark145))

theorem see8 : SeeOK Tryz.prog 3 9 8 ((.seq (.seq .str (.seq .str (.seq .str (.seq (.int .u16) (.seq (.int .u32) (.seq (.int .u16) .bool)))))) (.seq (.row 5 (.int .u8)) (.seq (.int .i64) (.row 140 (.seq (.int .u16) (.seq (.int .i64) (.row 5 (.int .u8))))))))) :=
  SeeOK.of_code Tryz.func8 rfl Tryz.ntmps8 (by decide) rfl
    (SeeCode.seq rfl (SeeCode.fieldB see88 (by kernel_rfl) (fun x hx => by cases hx; decide) (by kernel_rfl) (by kernel_rfl))
      (SeeCode.seq rfl (SeeCode.fieldB see12 (by kernel_rfl) (fun x hx => by cases hx; decide) (by kernel_rfl) (by kernel_rfl))
      (SeeCode.seq rfl (SeeCode.fieldB see89 (by kernel_rfl) (fun x hx => by cases hx; decide) (by kernel_rfl) (by kernel_rfl))
      (SeeCode.fieldB see90 (by kernel_rfl) (fun x hx => by cases hx; decide) (by kernel_rfl) (by kernel_rfl)))))

theorem mark8 : MarkOK Tryz.prog 3 9 8 ((.seq (.seq .str (.seq .str (.seq .str (.seq (.int .u16) (.seq (.int .u32) (.seq (.int .u16) .bool)))))) (.seq (.row 5 (.int .u8)) (.seq (.int .i64) (.row 140 (.seq (.int .u16) (.seq (.int .i64) (.row 5 (.int .u8))))))))) :=
  MarkOK.of_code Tryz.func8 rfl Tryz.ntmps8 (by decide) rfl
    (MarkCode.seq (MarkCode.fieldB mark88 (by kernel_rfl) (fun x hx => by cases hx; decide) (by kernel_rfl) (by kernel_rfl))
      (MarkCode.seq (MarkCode.fieldB mark12 (by kernel_rfl) (fun x hx => by cases hx; decide) (by kernel_rfl) (by kernel_rfl))
      (MarkCode.seq (MarkCode.fieldB mark89 (by kernel_rfl) (fun x hx => by cases hx; decide) (by kernel_rfl) (by kernel_rfl))
      (MarkCode.fieldB mark90 (by kernel_rfl) (fun x hx => by cases hx; decide) (by kernel_rfl) (by kernel_rfl)))))

theorem see11 : SeeOK Tryz.prog 3 9 11 ((.row 5 (.int .u8))) :=
  SeeOK.of_code Tryz.func11 rfl Tryz.ntmps11 (by decide) rfl (SeeCode.handed (by kernel_rfl) (fun x hx => by cases hx; decide) Tryz.func12 (by kernel_rfl) (by kernel_rfl) see12)

theorem mark11 : MarkOK Tryz.prog 3 9 11 ((.row 5 (.int .u8))) :=
  MarkOK.of_code Tryz.func11 rfl Tryz.ntmps11 (by decide) rfl (MarkCode.handed (by kernel_rfl) (fun x hx => by cases hx; decide) Tryz.func12 (by kernel_rfl) (by kernel_rfl) mark12)

theorem see18 : SeeOK Tryz.prog 3 9 18 ((.seq .bool (.seq (.int .i64) (.seq (.row 5 (.int .u8)) (.row 140 (.seq (.int .u16) (.seq (.int .i64) (.row 5 (.int .u8))))))))) :=
  SeeOK.of_code Tryz.func18 rfl Tryz.ntmps18 (by decide) rfl
    (SeeCode.seq rfl (SeeCode.fieldB see99 (by kernel_rfl) (fun x hx => by cases hx; decide) (by kernel_rfl) (by kernel_rfl))
      (SeeCode.seq rfl (SeeCode.fieldB see89 (by kernel_rfl) (fun x hx => by cases hx; decide) (by kernel_rfl) (by kernel_rfl))
      (SeeCode.seq rfl (SeeCode.fieldB see12 (by kernel_rfl) (fun x hx => by cases hx; decide) (by kernel_rfl) (by kernel_rfl))
      (SeeCode.fieldB see90 (by kernel_rfl) (fun x hx => by cases hx; decide) (by kernel_rfl) (by kernel_rfl)))))

theorem mark18 : MarkOK Tryz.prog 3 9 18 ((.seq .bool (.seq (.int .i64) (.seq (.row 5 (.int .u8)) (.row 140 (.seq (.int .u16) (.seq (.int .i64) (.row 5 (.int .u8))))))))) :=
  MarkOK.of_code Tryz.func18 rfl Tryz.ntmps18 (by decide) rfl
    (MarkCode.seq (MarkCode.fieldB mark99 (by kernel_rfl) (fun x hx => by cases hx; decide) (by kernel_rfl) (by kernel_rfl))
      (MarkCode.seq (MarkCode.fieldB mark89 (by kernel_rfl) (fun x hx => by cases hx; decide) (by kernel_rfl) (by kernel_rfl))
      (MarkCode.seq (MarkCode.fieldB mark12 (by kernel_rfl) (fun x hx => by cases hx; decide) (by kernel_rfl) (by kernel_rfl))
      (MarkCode.fieldB mark90 (by kernel_rfl) (fun x hx => by cases hx; decide) (by kernel_rfl) (by kernel_rfl)))))

theorem see17 : SeeOK Tryz.prog 3 9 17 ((.seq .bool (.seq (.int .i64) (.seq (.row 5 (.int .u8)) (.row 140 (.seq (.int .u16) (.seq (.int .i64) (.row 5 (.int .u8))))))))) :=
  SeeOK.of_code Tryz.func17 rfl Tryz.ntmps17 (by decide) rfl (SeeCode.handed (by kernel_rfl) (fun x hx => by cases hx; decide) Tryz.func18 (by kernel_rfl) (by kernel_rfl) see18)

theorem mark17 : MarkOK Tryz.prog 3 9 17 ((.seq .bool (.seq (.int .i64) (.seq (.row 5 (.int .u8)) (.row 140 (.seq (.int .u16) (.seq (.int .i64) (.row 5 (.int .u8))))))))) :=
  MarkOK.of_code Tryz.func17 rfl Tryz.ntmps17 (by decide) rfl (MarkCode.handed (by kernel_rfl) (fun x hx => by cases hx; decide) Tryz.func18 (by kernel_rfl) (by kernel_rfl) mark18)

theorem see21 : SeeOK Tryz.prog 3 9 21 ((.seq .bool (.seq (.int .i64) (.seq (.row 5 (.int .u8)) (.row 140 (.seq (.int .u16) (.seq (.int .i64) (.row 5 (.int .u8))))))))) :=
  SeeOK.of_code Tryz.func21 rfl Tryz.ntmps21 (by decide) rfl (SeeCode.handed (by kernel_rfl) (fun x hx => by cases hx; decide) Tryz.func18 (by kernel_rfl) (by kernel_rfl) see18)

theorem mark21 : MarkOK Tryz.prog 3 9 21 ((.seq .bool (.seq (.int .i64) (.seq (.row 5 (.int .u8)) (.row 140 (.seq (.int .u16) (.seq (.int .i64) (.row 5 (.int .u8))))))))) :=
  MarkOK.of_code Tryz.func21 rfl Tryz.ntmps21 (by decide) rfl (MarkCode.handed (by kernel_rfl) (fun x hx => by cases hx; decide) Tryz.func18 (by kernel_rfl) (by kernel_rfl) mark18)

theorem room11 : Room ((.row 5 (.int .u8))) [] [] := ⟨by decide, by decide, D.whole_fit _ (by kernel_rfl) _⟩

theorem clos11 : ∀ b o, ClosS Tryz.prog 3 9 ⟨11, b, o, ((.row 5 (.int .u8)))⟩ := fun b o => ⟨see11, mark11, (D.okB_ok (by kernel_rfl)), room11, by kernel_rfl⟩

theorem room17 : Room ((.seq .bool (.seq (.int .i64) (.seq (.row 5 (.int .u8)) (.row 140 (.seq (.int .u16) (.seq (.int .i64) (.row 5 (.int .u8))))))))) [] [] := ⟨by decide, by decide, D.whole_fit _ (by kernel_rfl) _⟩

theorem clos17 : ∀ b o, ClosS Tryz.prog 3 9 ⟨17, b, o, ((.seq .bool (.seq (.int .i64) (.seq (.row 5 (.int .u8)) (.row 140 (.seq (.int .u16) (.seq (.int .i64) (.row 5 (.int .u8)))))))))⟩ := fun b o => ⟨see17, mark17, (D.okB_ok (by kernel_rfl)), room17, by kernel_rfl⟩

theorem room21 : Room ((.seq .bool (.seq (.int .i64) (.seq (.row 5 (.int .u8)) (.row 140 (.seq (.int .u16) (.seq (.int .i64) (.row 5 (.int .u8))))))))) [] [] := ⟨by decide, by decide, D.whole_fit _ (by kernel_rfl) _⟩

theorem clos21 : ∀ b o, ClosS Tryz.prog 3 9 ⟨21, b, o, ((.seq .bool (.seq (.int .i64) (.seq (.row 5 (.int .u8)) (.row 140 (.seq (.int .u16) (.seq (.int .i64) (.row 5 (.int .u8)))))))))⟩ := fun b o => ⟨see21, mark21, (D.okB_ok (by kernel_rfl)), room21, by kernel_rfl⟩

theorem okT : dT.ok Tryz.prog := (D.okB_ok (by kernel_rfl))

theorem roomT : Room dT [] [] := ⟨by decide, by decide, D.whole_fit _ (by kernel_rfl) _⟩

theorem rowsT : dT.rows = true := rfl

theorem kindT : kindB Tryz.prog 8 dT 30 = true := by kernel_rfl

end Go.Sx

namespace Go.Sx
open Go Go.Proofs

theorem copy86 : CopyRaw Tryz.prog 86 5 1 :=
  CopyRaw.of_codeB Tryz.func86 Tryz.ntmps86 rfl (by kernel_rfl) Tryz.underlying27 (by kernel_rfl) rfl

theorem own86 : OwnOK Tryz.prog 2000 86 false (.row 5 (.int .u8)) :=
  OwnOK.rowB copy86 (Nat.le_refl _) rfl (by kernel_rfl)

theorem own141 : OwnOK Tryz.prog 2000 141 true (.seq (.int .u16) (.seq (.int .i64) (.row 5 (.int .u8)))) := by
  refine OwnOK.of_run (T := 140) (l := [(2, (.row 5 (.int .u8)))]) Tryz.func141 Tryz.ntmps141 (by kernel_rfl) (z := (zeroAt Tryz.prog 140).getD default) (by kernel_rfl) (by kernel_rfl) rfl ?_ (coverB_P _ _ (by kernel_rfl)) (partsB_ok (by kernel_rfl))
  refine OwnRun.cons (by unfold LB; omega) own86 (D.okB_ok (by kernel_rfl)) (by kernel_rfl) (by kernel_rfl) (by kernel_rfl) (by kernel_rfl) (by kernel_rfl) (by kernel_rfl) (by kernel_rfl) ?_
  exact OwnRun.fin rfl (by kernel_rfl) (by kernel_rfl) (by kernel_rfl)

theorem copy140 : CopyRaw Tryz.prog 140 140 3 :=
  CopyRaw.of_codeB Tryz.func140 Tryz.ntmps140 rfl (by kernel_rfl) Tryz.underlying28 (by kernel_rfl) rfl

set_option maxRecDepth 100000 in
set_option maxHeartbeats 3200000 in
theorem own87 : OwnOK Tryz.prog 2000 87 false (.row 140 (.seq (.int .u16) (.seq (.int .i64) (.row 5 (.int .u8))))) := by
  intro w χ Z cs hinv hZ hsz hr hs
  obtain ⟨ao, l, c, k1, k2, k3, k4⟩ := hr
  have k1 : cs[0]? = some (.slice ao l c) := k1
  simp only [SmV] at hs
  obtain ⟨s1, s2⟩ := hs ao l c k1
  have hv : cs.getD 0 undef = .slice ao l c := by rw [Array.getD_eq_getD_getElem?, k1]; rfl
  simp only [Bool.false_eq_true, if_false, hv]
  have hes : ((.seq (.int .u16) (.seq (.int .i64) (.row 5 (.int .u8)))) : D).size = 3 := rfl
  have hcp := copy140 w ao l c (by omega) (row_cells (e := (.seq (.int .u16) (.seq (.int .i64) (.row 5 (.int .u8))))) (by decide) k4 s2)
  have hokr : (D.row 140 (.seq (.int .u16) (.seq (.int .i64) (.row 5 (.int .u8))))).ok Tryz.prog := D.okB_ok (by kernel_rfl)
  have hagT : aggOf Tryz.prog 140 = some true := by kernel_rfl
  have hszT : sizeAt Tryz.prog 140 = some 3 := by kernel_rfl
  go_enter Tryz.func87, Tryz.ntmps87
  go_wp2_with ((refine hcp.mono ?_; clear hcp; intro en w1 hp; rcases hp with ⟨rfl, rfl, rfl⟩ | ⟨cap, ncs, b, o, h0, hao, rfl, q1, q2, rfl, q3, q4, z', q5, q6⟩))
  · refine wp_loop_rounds 1 ?_
    rw [rounds_succ]
    go_wp2
    go_ret
    exact own_nil hinv k1
  · have hk4 : ∀ j, j < l → Rd Z w (.seq (.int .u16) (.seq (.int .i64) (.row 5 (.int .u8)))) b (o + j * ((.seq (.int .u16) (.seq (.int .i64) (.row 5 (.int .u8)))) : D).size) := by
      rcases k4 with k4 | ⟨b', o', hao', k4⟩
      · omega
      · rw [hao] at hao'; cases hao'; exact k4
    have hst : CpRel Tryz.prog 2000 w χ χ w.heap.size 140 l cap b o (.seq (.int .u16) (.seq (.int .i64) (.row 5 (.int .u8)))) z'.cells l 0 (w.alloc (Obj.cells ncs 140)).drew ncs := CpRel.start hinv q3 q4 q6
    clear q3 q4 q6 k4
    generalize (w.alloc (Obj.cells ncs 140)).drew = w2 at *
    go_loopg [3] l (fun k p wr => ∃ (i : Nat) (χr : Chi) (ncs : Array Value), p = .int .i64 i ∧ CpRel Tryz.prog 2000 w χ χr w.heap.size 140 l cap b o (.seq (.int .u16) (.seq (.int .i64) (.row 5 (.int .u8)))) z'.cells k i wr ncs)
    · exact ⟨0, χ, ncs, by simp, hst⟩
    · clear hst ncs
      obtain ⟨i, χr, ncs, rfl, hrl⟩ := hrel
      cases gk with
      | zero =>
        have hil : decide (i < l) = false := by have := hrl.ik; simp; omega
        go_wp2
        go_ret
        exact CpRel.out (by unfold LB; omega) hokr rfl (by rw [show z' = (zeroAt Tryz.prog 140).getD default by rw [q5]; rfl]; kernel_rfl) s1 q1 q2 hao k1 hrl
      | succ k =>
        have hil : decide (i < l) = true := by have := hrl.ik; simp; omega
        have hlt : i < l := by have := hrl.ik; omega
        have hi0 : (0 : Int) ≤ (i : Int) := by omega
        have hi1 : (i : Int) < (l : Int) := by omega
        have hi40 : (i : Int) ≤ 2000 := by omega
        obtain ⟨hle, hcall⟩ := hrl.round (agg := true) (h := 141) (by unfold LB; omega) hokr.2.2 q1 (by decide) own141 hZ hk4 (fun j hj => s2 b o hao j hj)
        have hblk := hrl.blk
        rw [hes] at hle hcall
        try simp only [Nat.mul_one] at hle hcall
        go_wp2_with (first
          | (refine wpList_loadP rfl 140 _ rfl true hagT 3 hszT (by decide) w.heap.size (i * 3) _ rfl (by omega) ncs 140 hblk hle ?_)
          | (refine hcall.mono ?_; clear hcall; rintro en w3 ⟨cs', χ', rfl, hpc, hcs', hone, hblk3, hrl2⟩)
          | (refine wpList_storeP rfl 140 _ _ rfl rfl 3 hszT w.heap.size (i * 3) _ rfl (by omega) cs' hpc hcs' hone ncs 140 hblk3 hle ?_))
        go_roundg k
        case measure => omega
        case rel => exact ⟨i + 1, χ', _, by go_num, hrl2⟩

theorem own7 : OwnOK Tryz.prog 2000 7 true dT := by
  refine OwnOK.of_run (T := 30) (l := [(7, (.row 5 (.int .u8))), (9, (.row 140 (.seq (.int .u16) (.seq (.int .i64) (.row 5 (.int .u8))))))]) Tryz.func7 Tryz.ntmps7 (by kernel_rfl) (z := (zeroAt Tryz.prog 30).getD default) (by kernel_rfl) (by kernel_rfl) rfl ?_ (coverB_P _ _ (by kernel_rfl)) (partsB_ok (by kernel_rfl))
  refine OwnRun.cons (by unfold LB; omega) own86 (D.okB_ok (by kernel_rfl)) (by kernel_rfl) (by kernel_rfl) (by kernel_rfl) (by kernel_rfl) (by kernel_rfl) (by kernel_rfl) (by kernel_rfl) ?_
  refine OwnRun.cons (by unfold LB; omega) own87 (D.okB_ok (by kernel_rfl)) (by kernel_rfl) (by kernel_rfl) (by kernel_rfl) (by kernel_rfl) (by kernel_rfl) (by kernel_rfl) (by kernel_rfl) ?_
  exact OwnRun.fin rfl (by kernel_rfl) (by kernel_rfl) (by kernel_rfl)

end Go.Sx
