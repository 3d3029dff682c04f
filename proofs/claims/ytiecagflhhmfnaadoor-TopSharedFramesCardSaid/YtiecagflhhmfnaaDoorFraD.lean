/- Part FraD of a proof: helper lemmas; no conditions. -/
import Derived.Test.YtiecagflhhmfnaaDoorK
import Derived.Test.YtiecagflhhmfnaaDoorFraW
import Derived.Test.YtiecagflhhmfnaaDoorProg
import Derived.KernelRfl
import Derived.OwnWalk
import Derived.Test.YtiecagflhhmfnaaDoorL
import Derived.WalkKit
import Derived.WalkSpells
import Derived.StillTactics
import Derived.Laws.Pointers
import Derived.Deep.RegionLaw
import Derived.Deep.AppendLies
import Derived.Deep.LoopGhost

namespace Go.Sx
open Go Go.Proofs

abbrev dT : D := (.seq (.row 5 (.int .u8)) (.seq (.row 5 (.int .u8)) (.row 46 (.row 5 (.int .u8)))))
abbrev glL : List (Nat × List CT) := [(0, List.replicate 8 (.int .u8 (0) (255)))]

theorem see27 : SeeOK Tryd.prog 3 9 27 ((.row 5 (.int .u8))) :=
  SeeOK.of_code Tryd.func27 rfl Tryd.ntmps27 (by decide) rfl
    (SeeCode.row (by kernel_rfl) (fun x hx => by cases hx; decide) (by kernel_rfl) Tryd.func130 (by kernel_rfl) (by kernel_rfl) (all130 131 _ Tryd.func131 (by kernel_rfl) (by kernel_rfl) see131))

theorem mark27 : MarkOK Tryd.prog 3 9 27 ((.row 5 (.int .u8))) :=
  MarkOK.of_code Tryd.func27 rfl Tryd.ntmps27 (by decide) rfl
    (MarkCode.row (by kernel_rfl) (fun x hx => by cases hx; decide) (by kernel_rfl) (by kernel_rfl) Tryd.func130 (by kernel_rfl) (by kernel_rfl) (allm130 131 _ Tryd.func131 (by kernel_rfl) (by kernel_rfl) mark131))

theorem see176 : SeeOK Tryd.prog 3 9 176 ((.row 46 (.row 5 (.int .u8)))) :=
  SeeOK.of_code Tryd.func176 rfl Tryd.ntmps176 (by decide) rfl
    (SeeCode.row (by kernel_rfl) (fun x hx => by cases hx; decide) (by kernel_rfl) Tryd.func206 (by kernel_rfl) (by kernel_rfl) (all206 27 _ Tryd.func27 (by kernel_rfl) (by kernel_rfl) see27))

theorem mark176 : MarkOK Tryd.prog 3 9 176 ((.row 46 (.row 5 (.int .u8)))) :=
  MarkOK.of_code Tryd.func176 rfl Tryd.ntmps176 (by decide) rfl
    (MarkCode.row (by kernel_rfl) (fun x hx => by cases hx; decide) (by kernel_rfl) (by kernel_rfl) Tryd.func206 (by kernel_rfl) (by kernel_rfl) (allm206 27 _ Tryd.func27 (by kernel_rfl) (by kernel_rfl) mark27))

theorem see88 : SeeOK Tryd.prog 3 9 88 ((.seq (.row 5 (.int .u8)) (.seq (.row 5 (.int .u8)) (.row 46 (.row 5 (.int .u8)))))) :=
  SeeOK.of_code Tryd.func88 rfl Tryd.ntmps88 (by decide) rfl
    (SeeCode.seq rfl (SeeCode.fieldB see27 (by kernel_rfl) (fun x hx => by cases hx; decide) (by kernel_rfl) (by kernel_rfl))
      (SeeCode.seq rfl (SeeCode.fieldB see27 (by kernel_rfl) (fun x hx => by cases hx; decide) (by kernel_rfl) (by kernel_rfl))
      (SeeCode.fieldB see176 (by kernel_rfl) (fun x hx => by cases hx; decide) (by kernel_rfl) (by kernel_rfl))))

theorem mark88 : MarkOK Tryd.prog 3 9 88 ((.seq (.row 5 (.int .u8)) (.seq (.row 5 (.int .u8)) (.row 46 (.row 5 (.int .u8)))))) :=
  MarkOK.of_code Tryd.func88 rfl Tryd.ntmps88 (by decide) rfl
    (MarkCode.seq (MarkCode.fieldB mark27 (by kernel_rfl) (fun x hx => by cases hx; decide) (by kernel_rfl) (by kernel_rfl))
      (MarkCode.seq (MarkCode.fieldB mark27 (by kernel_rfl) (fun x hx => by cases hx; decide) (by kernel_rfl) (by kernel_rfl))
      (MarkCode.fieldB mark176 (by kernel_rfl) (fun x hx => by cases hx; decide) (by kernel_rfl) (by kernel_rfl))))

theorem see91 : SeeOK Tryd.prog 3 9 91 ((.row 5 (.int .u8))) :=
  SeeOK.of_code Tryd.func91 rfl Tryd.ntmps91 (by decide) rfl (SeeCode.handed (by kernel_rfl) (fun x hx => by cases hx; decide) Tryd.func27 (by kernel_rfl) (by kernel_rfl) see27)

theorem mark91 : MarkOK Tryd.prog 3 9 91 ((.row 5 (.int .u8))) :=
  MarkOK.of_code Tryd.func91 rfl Tryd.ntmps91 (by decide) rfl (MarkCode.handed (by kernel_rfl) (fun x hx => by cases hx; decide) Tryd.func27 (by kernel_rfl) (by kernel_rfl) mark27)

theorem see94 : SeeOK Tryd.prog 3 9 94 ((.row 5 (.int .u8))) :=
  SeeOK.of_code Tryd.func94 rfl Tryd.ntmps94 (by decide) rfl (SeeCode.handed (by kernel_rfl) (fun x hx => by cases hx; decide) Tryd.func27 (by kernel_rfl) (by kernel_rfl) see27)

theorem mark94 : MarkOK Tryd.prog 3 9 94 ((.row 5 (.int .u8))) :=
  MarkOK.of_code Tryd.func94 rfl Tryd.ntmps94 (by decide) rfl (MarkCode.handed (by kernel_rfl) (fun x hx => by cases hx; decide) Tryd.func27 (by kernel_rfl) (by kernel_rfl) mark27)

theorem see97 : SeeOK Tryd.prog 3 9 97 ((.row 5 (.int .u8))) :=
  SeeOK.of_code Tryd.func97 rfl Tryd.ntmps97 (by decide) rfl (SeeCode.handed (by kernel_rfl) (fun x hx => by cases hx; decide) Tryd.func27 (by kernel_rfl) (by kernel_rfl) see27)

theorem mark97 : MarkOK Tryd.prog 3 9 97 ((.row 5 (.int .u8))) :=
  MarkOK.of_code Tryd.func97 rfl Tryd.ntmps97 (by decide) rfl (MarkCode.handed (by kernel_rfl) (fun x hx => by cases hx; decide) Tryd.func27 (by kernel_rfl) (by kernel_rfl) mark27)

theorem see100 : SeeOK Tryd.prog 3 9 100 ((.row 5 (.int .u8))) :=
  SeeOK.of_code Tryd.func100 rfl Tryd.ntmps100 (by decide) rfl (SeeCode.handed (by kernel_rfl) (fun x hx => by cases hx; decide) Tryd.func27 (by kernel_rfl) (by kernel_rfl) see27)

theorem mark100 : MarkOK Tryd.prog 3 9 100 ((.row 5 (.int .u8))) :=
  MarkOK.of_code Tryd.func100 rfl Tryd.ntmps100 (by decide) rfl (MarkCode.handed (by kernel_rfl) (fun x hx => by cases hx; decide) Tryd.func27 (by kernel_rfl) (by kernel_rfl) mark27)

theorem room91 : Room ((.row 5 (.int .u8))) [] [] := ⟨by decide, by decide⟩

theorem clos91 : ∀ b o, ClosS Tryd.prog 3 9 ⟨91, b, o, ((.row 5 (.int .u8)))⟩ := fun b o => ⟨see91, mark91, D.okB_ok (by kernel_rfl), room91, by kernel_rfl⟩

theorem room94 : Room ((.row 5 (.int .u8))) [] [] := ⟨by decide, by decide⟩

theorem clos94 : ∀ b o, ClosS Tryd.prog 3 9 ⟨94, b, o, ((.row 5 (.int .u8)))⟩ := fun b o => ⟨see94, mark94, D.okB_ok (by kernel_rfl), room94, by kernel_rfl⟩

theorem room97 : Room ((.row 5 (.int .u8))) [] [] := ⟨by decide, by decide⟩

theorem clos97 : ∀ b o, ClosS Tryd.prog 3 9 ⟨97, b, o, ((.row 5 (.int .u8)))⟩ := fun b o => ⟨see97, mark97, D.okB_ok (by kernel_rfl), room97, by kernel_rfl⟩

theorem room100 : Room ((.row 5 (.int .u8))) [] [] := ⟨by decide, by decide⟩

theorem clos100 : ∀ b o, ClosS Tryd.prog 3 9 ⟨100, b, o, ((.row 5 (.int .u8)))⟩ := fun b o => ⟨see100, mark100, D.okB_ok (by kernel_rfl), room100, by kernel_rfl⟩

theorem okT : dT.ok Tryd.prog := D.okB_ok (by kernel_rfl)

theorem roomT : Room dT [] [] := ⟨by decide, by decide⟩

end Go.Sx

namespace Go.Sx
open Go Go.Proofs

theorem copy129 : CopyRaw Tryd.prog 129 5 1 :=
  CopyRaw.of_codeB Tryd.func129 Tryd.ntmps129 rfl (by kernel_rfl) Tryd.underlying46 (by kernel_rfl) rfl

theorem own129 : OwnOK Tryd.prog 2000 129 false (.row 5 (.int .u8)) :=
  OwnOK.rowB copy129 (Nat.le_refl _) rfl (by kernel_rfl)

theorem copy205 : CopyRaw Tryd.prog 205 46 1 :=
  CopyRaw.of_codeB Tryd.func205 Tryd.ntmps205 rfl (by kernel_rfl) Tryd.underlying148 (by kernel_rfl) rfl

set_option maxRecDepth 100000 in
set_option maxHeartbeats 3200000 in
theorem own175 : OwnOK Tryd.prog 2000 175 false (.row 46 (.row 5 (.int .u8))) := by
  intro w χ Z cs hinv hZ hsz hr hs
  obtain ⟨ao, l, c, k1, k2, k3, k4⟩ := hr
  have k1 : cs[0]? = some (.slice ao l c) := k1
  simp only [SmV] at hs
  obtain ⟨s1, s2⟩ := hs ao l c k1
  have hv : cs.getD 0 undef = .slice ao l c := by rw [Array.getD_eq_getD_getElem?, k1]; rfl
  simp only [Bool.false_eq_true, if_false, hv]
  have hes : ((.row 5 (.int .u8)) : D).size = 1 := rfl
  have hcp := copy205 w ao l c (by omega) (row_cells (e := (.row 5 (.int .u8))) (by decide) k4)
  have hokr : (D.row 46 (.row 5 (.int .u8))).ok Tryd.prog := D.okB_ok (by kernel_rfl)
  have hagT : aggOf Tryd.prog 46 = some false := by kernel_rfl
  have hszT : sizeAt Tryd.prog 46 = some 1 := by kernel_rfl
  go_enter Tryd.func175, Tryd.ntmps175
  go_wp2_with ((refine hcp.mono ?_; clear hcp; intro en w1 hp; rcases hp with ⟨rfl, rfl, rfl⟩ | ⟨cap, ncs, b, o, h0, hao, rfl, q1, q2, rfl, q3, q4, z', q5, q6⟩))
  · refine wp_loop_rounds 1 ?_
    rw [rounds_succ]
    go_wp2
    go_ret
    exact own_nil hinv k1
  · have hk4 : ∀ j, j < l → Rd Z w (.row 5 (.int .u8)) b (o + j * ((.row 5 (.int .u8)) : D).size) := by
      rcases k4 with k4 | ⟨b', o', hao', k4⟩
      · omega
      · rw [hao] at hao'; cases hao'; exact k4
    have hst : CpRel Tryd.prog 2000 w χ χ w.heap.size 46 l cap b o (.row 5 (.int .u8)) z'.cells l 0 (w.alloc (Obj.cells ncs 46)).drew ncs := CpRel.start hinv q3 q4 q6
    clear q3 q4 q6 k4
    generalize (w.alloc (Obj.cells ncs 46)).drew = w2 at *
    go_loopg [3] l (fun k p wr => ∃ (i : Nat) (χr : Chi) (ncs : Array Value), p = .int .i64 i ∧ CpRel Tryd.prog 2000 w χ χr w.heap.size 46 l cap b o (.row 5 (.int .u8)) z'.cells k i wr ncs)
    · exact ⟨0, χ, ncs, by simp, hst⟩
    · clear hst ncs
      obtain ⟨i, χr, ncs, rfl, hrl⟩ := hrel
      cases gk with
      | zero =>
        have hil : decide (i < l) = false := by have := hrl.ik; simp; omega
        go_wp2
        go_ret
        exact CpRel.out (by unfold LB; omega) hokr rfl (by rw [show z' = (zeroAt Tryd.prog 46).getD default by rw [q5]; rfl]; kernel_rfl) s1 q1 q2 hao k1 hrl
      | succ k =>
        have hil : decide (i < l) = true := by have := hrl.ik; simp; omega
        have hlt : i < l := by have := hrl.ik; omega
        have hi0 : (0 : Int) ≤ (i : Int) := by omega
        have hi1 : (i : Int) < (l : Int) := by omega
        have hi40 : (i : Int) ≤ 2000 := by omega
        obtain ⟨hle, hcall⟩ := hrl.round (agg := false) (h := 129) (by unfold LB; omega) hokr.2.2 q1 (by decide) own129 hZ hk4 (fun j hj => s2 b o hao j hj)
        have hblk := hrl.blk
        rw [hes] at hle hcall
        try simp only [Nat.mul_one] at hle hcall
        go_wp2_with (first
          | (refine wpList_loadP rfl 46 _ rfl false hagT 1 hszT (by decide) w.heap.size i _ rfl (by omega) ncs 46 hblk hle ?_)
          | (refine hcall.mono ?_; clear hcall; rintro en w3 ⟨cs', χ', rfl, hpc, hcs', hone, hblk3, hrl2⟩)
          | (refine wpList_storeP rfl 46 _ _ rfl rfl 1 hszT w.heap.size i _ rfl (by omega) cs' hpc hcs' hone ncs 46 hblk3 hle ?_))
        go_roundg k
        case measure => omega
        case rel => exact ⟨i + 1, χ', _, by go_num, hrl2⟩

theorem own87 : OwnOK Tryd.prog 2000 87 true dT := by
  refine OwnOK.of_run (T := 150) (l := [(0, (.row 5 (.int .u8))), (1, (.row 5 (.int .u8))), (2, (.row 46 (.row 5 (.int .u8))))]) Tryd.func87 Tryd.ntmps87 (by kernel_rfl) (z := (zeroAt Tryd.prog 150).getD default) (by kernel_rfl) (by kernel_rfl) rfl ?_ (by kernel_rfl) (partsB_ok (by kernel_rfl))
  refine OwnRun.cons (by unfold LB; omega) own129 (D.okB_ok (by kernel_rfl)) (by kernel_rfl) (by kernel_rfl) (by kernel_rfl) (by kernel_rfl) (by kernel_rfl) (by kernel_rfl) (by kernel_rfl) ?_
  refine OwnRun.cons (by unfold LB; omega) own129 (D.okB_ok (by kernel_rfl)) (by kernel_rfl) (by kernel_rfl) (by kernel_rfl) (by kernel_rfl) (by kernel_rfl) (by kernel_rfl) (by kernel_rfl) ?_
  refine OwnRun.cons (by unfold LB; omega) own175 (D.okB_ok (by kernel_rfl)) (by kernel_rfl) (by kernel_rfl) (by kernel_rfl) (by kernel_rfl) (by kernel_rfl) (by kernel_rfl) (by kernel_rfl) ?_
  exact OwnRun.fin rfl (by kernel_rfl) (by kernel_rfl) (by kernel_rfl)

end Go.Sx
