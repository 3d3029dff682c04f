/- Part ComD of a proof: helper lemmas; no conditions. -/
import Derived.Test.YtadhlkgjiccdpaaGreatDoorTrA
import Derived.Test.YtadhlkgjiccdpaaGreatDoorK
import Derived.Test.YtadhlkgjiccdpaaGreatDoorComW
import Derived.Test.YtadhlkgjiccdpaaGreatDoorProg
import Derived.KernelRfl
import Derived.OwnWalk
import Derived.Test.YtadhlkgjiccdpaaGreatDoorLB
import Derived.WalkKit
import Derived.WalkSpells
import Derived.StillTactics
import Derived.Laws.Pointers
import Derived.Deep.RegionLaw
import Derived.Deep.AppendLies
import Derived.Deep.LoopGhost

set_option linter.unusedSimpArgs false
set_option linter.unusedVariables false

namespace Go.Sx
open Go Go.Proofs

abbrev dT : D := (.seq (.seq (.int .u8) (.seq (.int .i64) (.seq (.int .i64) (.seq (.int .i64) (.seq (.int .u8) (.row 5 (.int .u8))))))) (.seq (treeD KT) (.seq (.row 58 (.seq (.int .u8) (.seq (.int .i64) (.seq (.int .i64) (.seq (.int .i64) (.seq (.int .u8) (.row 5 (.int .u8)))))))) (.row 5 (.int .u8)))))
abbrev glL : List (Nat × List CT) := []

theorem see12 : SeeOK Tryz.prog 3 9 12 ((.row 5 (.int .u8))) :=
  SeeOK.of_code Tryz.func12 rfl Tryz.ntmps12 (by decide) rfl
    (SeeCode.row (by kernel_rfl) (fun x hx => by cases hx; decide) (by kernel_rfl) Tryz.func95 (by kernel_rfl) (by kernel_rfl) (all95 96 _ Tryz.func96 (by kernel_rfl) (by kernel_rfl) see96))

theorem mark12 : MarkOK Tryz.prog 3 9 12 ((.row 5 (.int .u8))) :=
  MarkOK.of_code Tryz.func12 rfl Tryz.ntmps12 (by decide) rfl
    (MarkCode.row (by kernel_rfl) (fun x hx => by cases hx; decide) (by kernel_rfl) (by kernel_rfl) Tryz.func95 (by kernel_rfl) (by kernel_rfl) (allm95 96 _ Tryz.func96 (by kernel_rfl) (by kernel_rfl) mark96))

theorem see35 : SeeOK Tryz.prog 3 9 35 ((.seq (.int .u8) (.seq (.int .i64) (.seq (.int .i64) (.seq (.int .i64) (.seq (.int .u8) (.row 5 (.int .u8)))))))) :=
  SeeOK.of_code Tryz.func35 rfl Tryz.ntmps35 (by decide) rfl
    (SeeCode.seq rfl (SeeCode.fieldB see117 (by kernel_rfl) (fun x hx => by cases hx; decide) (by kernel_rfl) (by kernel_rfl))
      (SeeCode.seq rfl (SeeCode.fieldB see89 (by kernel_rfl) (fun x hx => by cases hx; decide) (by kernel_rfl) (by kernel_rfl))
      (SeeCode.seq rfl (SeeCode.fieldB see89 (by kernel_rfl) (fun x hx => by cases hx; decide) (by kernel_rfl) (by kernel_rfl))
      (SeeCode.seq rfl (SeeCode.fieldB see89 (by kernel_rfl) (fun x hx => by cases hx; decide) (by kernel_rfl) (by kernel_rfl))
      (SeeCode.seq rfl (SeeCode.fieldB see118 (by kernel_rfl) (fun x hx => by cases hx; decide) (by kernel_rfl) (by kernel_rfl))
      (SeeCode.fieldB see12 (by kernel_rfl) (fun x hx => by cases hx; decide) (by kernel_rfl) (by kernel_rfl)))))))

theorem mark35 : MarkOK Tryz.prog 3 9 35 ((.seq (.int .u8) (.seq (.int .i64) (.seq (.int .i64) (.seq (.int .i64) (.seq (.int .u8) (.row 5 (.int .u8)))))))) :=
  MarkOK.of_code Tryz.func35 rfl Tryz.ntmps35 (by decide) rfl
    (MarkCode.seq (MarkCode.fieldB mark117 (by kernel_rfl) (fun x hx => by cases hx; decide) (by kernel_rfl) (by kernel_rfl))
      (MarkCode.seq (MarkCode.fieldB mark89 (by kernel_rfl) (fun x hx => by cases hx; decide) (by kernel_rfl) (by kernel_rfl))
      (MarkCode.seq (MarkCode.fieldB mark89 (by kernel_rfl) (fun x hx => by cases hx; decide) (by kernel_rfl) (by kernel_rfl))
      (MarkCode.seq (MarkCode.fieldB mark89 (by kernel_rfl) (fun x hx => by cases hx; decide) (by kernel_rfl) (by kernel_rfl))
      (MarkCode.seq (MarkCode.fieldB mark118 (by kernel_rfl) (fun x hx => by cases hx; decide) (by kernel_rfl) (by kernel_rfl))
      (MarkCode.fieldB mark12 (by kernel_rfl) (fun x hx => by cases hx; decide) (by kernel_rfl) (by kernel_rfl)))))))

theorem see114 (nn : Nat) (hh : SeeOK Tryz.prog 3 9 31 (treeD nn)) : SeeOK Tryz.prog 3 9 114 (.row 61 (treeD nn)) :=
  SeeOK.of_code Tryz.func114 rfl Tryz.ntmps114 (by decide) rfl
    (SeeCode.row (by kernel_rfl) (fun x hx => by cases hx; decide) (by kernel_rfl) Tryz.func157 (by kernel_rfl) (by kernel_rfl) (all157 nn 31 _ Tryz.func31 (by kernel_rfl) (by kernel_rfl) hh))

theorem mark114 (nn : Nat) (hh : MarkOK Tryz.prog 3 9 31 (treeD nn)) : MarkOK Tryz.prog 3 9 114 (.row 61 (treeD nn)) :=
  MarkOK.of_code Tryz.func114 rfl Tryz.ntmps114 (by decide) rfl
    (MarkCode.row (by kernel_rfl) (fun x hx => by cases hx; decide) (by kernel_rfl) (tauT.trans (treeD_cts nn).symm) Tryz.func157 (by kernel_rfl) (by kernel_rfl) (allm157 nn 31 _ Tryz.func31 (by kernel_rfl) (by kernel_rfl) hh))

theorem see31 : ∀ nn, SeeOK Tryz.prog 3 9 31 (treeD nn)
  | 0 => fun w Z be oe base bx ox at_ vn vs ns ss _ _ _ hroom => hroom.fit.elim
  | nn + 1 => SeeOK.of_code Tryz.func31 rfl Tryz.ntmps31 (by decide) rfl
    (SeeCode.seq rfl (SeeCode.fieldB see96 (by kernel_rfl) (fun x hx => by cases hx; decide) (by kernel_rfl) (by kernel_rfl))
      (SeeCode.seq rfl (SeeCode.fieldB see113 (by kernel_rfl) (fun x hx => by cases hx; decide) (by kernel_rfl) (by kernel_rfl))
      (SeeCode.seq rfl (SeeCode.fieldB see99 (by kernel_rfl) (fun x hx => by cases hx; decide) (by kernel_rfl) (by kernel_rfl))
      (SeeCode.seq rfl (SeeCode.fieldB see12 (by kernel_rfl) (fun x hx => by cases hx; decide) (by kernel_rfl) (by kernel_rfl))
      (SeeCode.fieldB (see114 nn (see31 nn)) (by kernel_rfl) (fun x hx => by cases hx; decide) (by kernel_rfl) (by kernel_rfl))))))

theorem mark31 : ∀ nn, MarkOK Tryz.prog 3 9 31 (treeD nn)
  | 0 => fun w χ be oe base bx ox at_ vn vs ns ss _ _ _ _ hroom => hroom.fit.elim
  | nn + 1 => MarkOK.of_code Tryz.func31 rfl Tryz.ntmps31 (by decide) rfl
    (MarkCode.seq (MarkCode.fieldB mark96 (by kernel_rfl) (fun x hx => by cases hx; decide) (by kernel_rfl) (by kernel_rfl))
      (MarkCode.seq (MarkCode.fieldB mark113 (by kernel_rfl) (fun x hx => by cases hx; decide) (by kernel_rfl) (by kernel_rfl))
      (MarkCode.seq (MarkCode.fieldB mark99 (by kernel_rfl) (fun x hx => by cases hx; decide) (by kernel_rfl) (by kernel_rfl))
      (MarkCode.seq (MarkCode.fieldB mark12 (by kernel_rfl) (fun x hx => by cases hx; decide) (by kernel_rfl) (by kernel_rfl))
      (MarkCode.fieldB (mark114 nn (mark31 nn)) (by kernel_rfl) (fun x hx => by cases hx; decide) (by kernel_rfl) (by kernel_rfl))))))

theorem see43 : SeeOK Tryz.prog 3 9 43 ((.row 58 (.seq (.int .u8) (.seq (.int .i64) (.seq (.int .i64) (.seq (.int .i64) (.seq (.int .u8) (.row 5 (.int .u8))))))))) :=
  SeeOK.of_code Tryz.func43 rfl Tryz.ntmps43 (by decide) rfl
    (SeeCode.row (by kernel_rfl) (fun x hx => by cases hx; decide) (by kernel_rfl) Tryz.func119 (by kernel_rfl) (by kernel_rfl) (all119 35 _ Tryz.func35 (by kernel_rfl) (by kernel_rfl) see35))

theorem mark43 : MarkOK Tryz.prog 3 9 43 ((.row 58 (.seq (.int .u8) (.seq (.int .i64) (.seq (.int .i64) (.seq (.int .i64) (.seq (.int .u8) (.row 5 (.int .u8))))))))) :=
  MarkOK.of_code Tryz.func43 rfl Tryz.ntmps43 (by decide) rfl
    (MarkCode.row (by kernel_rfl) (fun x hx => by cases hx; decide) (by kernel_rfl) (by kernel_rfl) Tryz.func119 (by kernel_rfl) (by kernel_rfl) (allm119 35 _ Tryz.func35 (by kernel_rfl) (by kernel_rfl) mark35))

theorem see25 : SeeOK Tryz.prog 3 9 25 ((.seq (.seq (.int .u8) (.seq (.int .i64) (.seq (.int .i64) (.seq (.int .i64) (.seq (.int .u8) (.row 5 (.int .u8))))))) (.seq (treeD KT) (.seq (.row 58 (.seq (.int .u8) (.seq (.int .i64) (.seq (.int .i64) (.seq (.int .i64) (.seq (.int .u8) (.row 5 (.int .u8)))))))) (.row 5 (.int .u8)))))) :=
  SeeOK.of_code Tryz.func25 rfl Tryz.ntmps25 (by decide) rfl
    (SeeCode.seq rfl (SeeCode.fieldB see35 (by kernel_rfl) (fun x hx => by cases hx; decide) (by kernel_rfl) (by kernel_rfl))
      (SeeCode.seq (treeD_rows KT) (SeeCode.fieldB (see31 KT) (by kernel_rfl) (fun x hx => by cases hx; decide) (by kernel_rfl) (by kernel_rfl))
      (SeeCode.seq rfl (SeeCode.fieldB see43 (by kernel_rfl) (fun x hx => by cases hx; decide) (by kernel_rfl) (by kernel_rfl))
      (SeeCode.fieldB see12 (by kernel_rfl) (fun x hx => by cases hx; decide) (by kernel_rfl) (by kernel_rfl)))))

theorem mark25 : MarkOK Tryz.prog 3 9 25 ((.seq (.seq (.int .u8) (.seq (.int .i64) (.seq (.int .i64) (.seq (.int .i64) (.seq (.int .u8) (.row 5 (.int .u8))))))) (.seq (treeD KT) (.seq (.row 58 (.seq (.int .u8) (.seq (.int .i64) (.seq (.int .i64) (.seq (.int .i64) (.seq (.int .u8) (.row 5 (.int .u8)))))))) (.row 5 (.int .u8)))))) :=
  MarkOK.of_code Tryz.func25 rfl Tryz.ntmps25 (by decide) rfl
    (MarkCode.seq (MarkCode.fieldB mark35 (by kernel_rfl) (fun x hx => by cases hx; decide) (by kernel_rfl) (by kernel_rfl))
      (MarkCode.seq (MarkCode.fieldB (mark31 KT) (by kernel_rfl) (fun x hx => by cases hx; decide) (by kernel_rfl) (by kernel_rfl))
      (MarkCode.seq (MarkCode.fieldB mark43 (by kernel_rfl) (fun x hx => by cases hx; decide) (by kernel_rfl) (by kernel_rfl))
      (MarkCode.fieldB mark12 (by kernel_rfl) (fun x hx => by cases hx; decide) (by kernel_rfl) (by kernel_rfl)))))

theorem see30 : SeeOK Tryz.prog 3 9 30 ((treeD KT)) :=
  SeeOK.of_code Tryz.func30 rfl Tryz.ntmps30 (by decide) rfl (SeeCode.handed (by kernel_rfl) (fun x hx => by cases hx; decide) Tryz.func31 (by kernel_rfl) (by kernel_rfl) (see31 KT))

theorem mark30 : MarkOK Tryz.prog 3 9 30 ((treeD KT)) :=
  MarkOK.of_code Tryz.func30 rfl Tryz.ntmps30 (by decide) rfl (MarkCode.handed (by kernel_rfl) (fun x hx => by cases hx; decide) Tryz.func31 (by kernel_rfl) (by kernel_rfl) (mark31 KT))

theorem see34 : SeeOK Tryz.prog 3 9 34 ((.seq (.int .u8) (.seq (.int .i64) (.seq (.int .i64) (.seq (.int .i64) (.seq (.int .u8) (.row 5 (.int .u8)))))))) :=
  SeeOK.of_code Tryz.func34 rfl Tryz.ntmps34 (by decide) rfl (SeeCode.handed (by kernel_rfl) (fun x hx => by cases hx; decide) Tryz.func35 (by kernel_rfl) (by kernel_rfl) see35)

theorem mark34 : MarkOK Tryz.prog 3 9 34 ((.seq (.int .u8) (.seq (.int .i64) (.seq (.int .i64) (.seq (.int .i64) (.seq (.int .u8) (.row 5 (.int .u8)))))))) :=
  MarkOK.of_code Tryz.func34 rfl Tryz.ntmps34 (by decide) rfl (MarkCode.handed (by kernel_rfl) (fun x hx => by cases hx; decide) Tryz.func35 (by kernel_rfl) (by kernel_rfl) mark35)

theorem see36 : SeeOK Tryz.prog 3 9 36 ((.seq (.int .u8) (.seq (.int .i64) (.seq (.int .i64) (.seq (.int .i64) (.seq (.int .u8) (.row 5 (.int .u8)))))))) :=
  SeeOK.of_code Tryz.func36 rfl Tryz.ntmps36 (by decide) rfl (SeeCode.handed (by kernel_rfl) (fun x hx => by cases hx; decide) Tryz.func35 (by kernel_rfl) (by kernel_rfl) see35)

theorem mark36 : MarkOK Tryz.prog 3 9 36 ((.seq (.int .u8) (.seq (.int .i64) (.seq (.int .i64) (.seq (.int .i64) (.seq (.int .u8) (.row 5 (.int .u8)))))))) :=
  MarkOK.of_code Tryz.func36 rfl Tryz.ntmps36 (by decide) rfl (MarkCode.handed (by kernel_rfl) (fun x hx => by cases hx; decide) Tryz.func35 (by kernel_rfl) (by kernel_rfl) mark35)

theorem see39 : SeeOK Tryz.prog 3 9 39 ((.row 5 (.int .u8))) :=
  SeeOK.of_code Tryz.func39 rfl Tryz.ntmps39 (by decide) rfl (SeeCode.handed (by kernel_rfl) (fun x hx => by cases hx; decide) Tryz.func12 (by kernel_rfl) (by kernel_rfl) see12)

theorem mark39 : MarkOK Tryz.prog 3 9 39 ((.row 5 (.int .u8))) :=
  MarkOK.of_code Tryz.func39 rfl Tryz.ntmps39 (by decide) rfl (MarkCode.handed (by kernel_rfl) (fun x hx => by cases hx; decide) Tryz.func12 (by kernel_rfl) (by kernel_rfl) mark12)

theorem see42 : SeeOK Tryz.prog 3 9 42 ((.row 58 (.seq (.int .u8) (.seq (.int .i64) (.seq (.int .i64) (.seq (.int .i64) (.seq (.int .u8) (.row 5 (.int .u8))))))))) :=
  SeeOK.of_code Tryz.func42 rfl Tryz.ntmps42 (by decide) rfl (SeeCode.handed (by kernel_rfl) (fun x hx => by cases hx; decide) Tryz.func43 (by kernel_rfl) (by kernel_rfl) see43)

theorem mark42 : MarkOK Tryz.prog 3 9 42 ((.row 58 (.seq (.int .u8) (.seq (.int .i64) (.seq (.int .i64) (.seq (.int .i64) (.seq (.int .u8) (.row 5 (.int .u8))))))))) :=
  MarkOK.of_code Tryz.func42 rfl Tryz.ntmps42 (by decide) rfl (MarkCode.handed (by kernel_rfl) (fun x hx => by cases hx; decide) Tryz.func43 (by kernel_rfl) (by kernel_rfl) mark43)

theorem room30 : Room ((treeD KT)) [] [] := ⟨by simp only [dT, D.bnd, KT_bnd]; decide, by simp only [dT, D.co, treeD_co]; decide, (KT_fit _)⟩

theorem clos30 : ∀ b o, ClosS Tryz.prog 3 9 ⟨30, b, o, ((treeD KT))⟩ := fun b o => ⟨see30, mark30, (treeD_ok KT), room30, by kernel_rfl⟩

theorem room34 : Room ((.seq (.int .u8) (.seq (.int .i64) (.seq (.int .i64) (.seq (.int .i64) (.seq (.int .u8) (.row 5 (.int .u8)))))))) [] [] := ⟨by decide, by decide, D.whole_fit _ (by kernel_rfl) _⟩

theorem clos34 : ∀ b o, ClosS Tryz.prog 3 9 ⟨34, b, o, ((.seq (.int .u8) (.seq (.int .i64) (.seq (.int .i64) (.seq (.int .i64) (.seq (.int .u8) (.row 5 (.int .u8))))))))⟩ := fun b o => ⟨see34, mark34, (D.okB_ok (by kernel_rfl)), room34, by kernel_rfl⟩

theorem room36 : Room ((.seq (.int .u8) (.seq (.int .i64) (.seq (.int .i64) (.seq (.int .i64) (.seq (.int .u8) (.row 5 (.int .u8)))))))) [] [] := ⟨by decide, by decide, D.whole_fit _ (by kernel_rfl) _⟩

theorem clos36 : ∀ b o, ClosS Tryz.prog 3 9 ⟨36, b, o, ((.seq (.int .u8) (.seq (.int .i64) (.seq (.int .i64) (.seq (.int .i64) (.seq (.int .u8) (.row 5 (.int .u8))))))))⟩ := fun b o => ⟨see36, mark36, (D.okB_ok (by kernel_rfl)), room36, by kernel_rfl⟩

theorem room39 : Room ((.row 5 (.int .u8))) [] [] := ⟨by decide, by decide, D.whole_fit _ (by kernel_rfl) _⟩

theorem clos39 : ∀ b o, ClosS Tryz.prog 3 9 ⟨39, b, o, ((.row 5 (.int .u8)))⟩ := fun b o => ⟨see39, mark39, (D.okB_ok (by kernel_rfl)), room39, by kernel_rfl⟩

theorem room42 : Room ((.row 58 (.seq (.int .u8) (.seq (.int .i64) (.seq (.int .i64) (.seq (.int .i64) (.seq (.int .u8) (.row 5 (.int .u8))))))))) [] [] := ⟨by decide, by decide, D.whole_fit _ (by kernel_rfl) _⟩

theorem clos42 : ∀ b o, ClosS Tryz.prog 3 9 ⟨42, b, o, ((.row 58 (.seq (.int .u8) (.seq (.int .i64) (.seq (.int .i64) (.seq (.int .i64) (.seq (.int .u8) (.row 5 (.int .u8)))))))))⟩ := fun b o => ⟨see42, mark42, (D.okB_ok (by kernel_rfl)), room42, by kernel_rfl⟩

theorem okT : dT.ok Tryz.prog := ⟨(D.okB_ok (by kernel_rfl)), ⟨(treeD_ok KT), (D.okB_ok (by kernel_rfl))⟩⟩

theorem roomT : Room dT [] [] := ⟨by simp only [dT, D.bnd, KT_bnd]; decide, by simp only [dT, D.co, treeD_co]; decide, ⟨(D.whole_fit _ (by kernel_rfl) _), ⟨(KT_fit _), (D.whole_fit _ (by kernel_rfl) _)⟩⟩⟩

theorem rowsT : dT.rows = true := (by simp only [dT, D.rows, D.num, treeD_rows, treeD_num, Bool.and_self, Bool.and_true] <;> rfl)

theorem leavesTy : typeLeaves Tryz.prog 40 64 0 = some [(0, 55), (1, 3), (2, 3), (3, 3), (4, 56), (5, 27), (6, 5), (7, 24), (8, 4), (9, 27), (10, 59), (11, 62), (12, 27)] := by kernel_rfl

theorem kindT : kindB Tryz.prog (KT + 10) dT 64 = true := by
  have h0 : leafB Tryz.prog (kindB Tryz.prog (KT + 9)) (.int .u8) 55 = true := (by kernel_rfl : leafB Tryz.prog (fun _ _ => false) (.int .u8) 55 = true)
  have h1 : leafB Tryz.prog (kindB Tryz.prog (KT + 9)) (.int .i64) 3 = true := (by kernel_rfl : leafB Tryz.prog (fun _ _ => false) (.int .i64) 3 = true)
  have h2 : leafB Tryz.prog (kindB Tryz.prog (KT + 9)) (.int .i64) 3 = true := (by kernel_rfl : leafB Tryz.prog (fun _ _ => false) (.int .i64) 3 = true)
  have h3 : leafB Tryz.prog (kindB Tryz.prog (KT + 9)) (.int .i64) 3 = true := (by kernel_rfl : leafB Tryz.prog (fun _ _ => false) (.int .i64) 3 = true)
  have h4 : leafB Tryz.prog (kindB Tryz.prog (KT + 9)) (.int .u8) 56 = true := (by kernel_rfl : leafB Tryz.prog (fun _ _ => false) (.int .u8) 56 = true)
  have h5 : leafB Tryz.prog (kindB Tryz.prog (KT + 9)) (.row 5 (.int .u8)) 27 = true := leafB_mono (fun _ _ h => kindB_le (by rw [KT_eq]; omega) h) (by kernel_rfl : leafB Tryz.prog (kindB Tryz.prog 30) (.row 5 (.int .u8)) 27 = true)
  have h6 : leafB Tryz.prog (kindB Tryz.prog (KT + 9)) (.int .u8) 5 = true := (by kernel_rfl : leafB Tryz.prog (fun _ _ => false) (.int .u8) 5 = true)
  have h7 : leafB Tryz.prog (kindB Tryz.prog (KT + 9)) (.int .u32) 24 = true := (by kernel_rfl : leafB Tryz.prog (fun _ _ => false) (.int .u32) 24 = true)
  have h8 : leafB Tryz.prog (kindB Tryz.prog (KT + 9)) (.bool) 4 = true := (by kernel_rfl : leafB Tryz.prog (fun _ _ => false) (.bool) 4 = true)
  have h9 : leafB Tryz.prog (kindB Tryz.prog (KT + 9)) (.row 5 (.int .u8)) 27 = true := leafB_mono (fun _ _ h => kindB_le (by rw [KT_eq]; omega) h) (by kernel_rfl : leafB Tryz.prog (kindB Tryz.prog 30) (.row 5 (.int .u8)) 27 = true)
  have h10 : leafB Tryz.prog (kindB Tryz.prog (KT + 9)) (.row 61 (treeD 39999)) 59 = true := by
    have u : Tryz.prog.underlying 59 = some (.slice 61) := by kernel_rfl
    have c : Tryz.prog.cellsOf 61 = 5 := by kernel_rfl
    simp only [leafB, u, c, treeD_size, treeD_kind 39999 (KT + 7) (by rw [KT_eq]; omega)]; rfl
  have h11 : leafB Tryz.prog (kindB Tryz.prog (KT + 9)) (.row 58 (.seq (.int .u8) (.seq (.int .i64) (.seq (.int .i64) (.seq (.int .i64) (.seq (.int .u8) (.row 5 (.int .u8)))))))) 62 = true := leafB_mono (fun _ _ h => kindB_le (by rw [KT_eq]; omega) h) (by kernel_rfl : leafB Tryz.prog (kindB Tryz.prog 30) (.row 58 (.seq (.int .u8) (.seq (.int .i64) (.seq (.int .i64) (.seq (.int .i64) (.seq (.int .u8) (.row 5 (.int .u8)))))))) 62 = true)
  have h12 : leafB Tryz.prog (kindB Tryz.prog (KT + 9)) (.row 5 (.int .u8)) 27 = true := leafB_mono (fun _ _ h => kindB_le (by rw [KT_eq]; omega) h) (by kernel_rfl : leafB Tryz.prog (kindB Tryz.prog 30) (.row 5 (.int .u8)) 27 = true)
  unfold kindB
  rw [leavesTy]
  show ((false || pairB (leafB Tryz.prog (kindB Tryz.prog (KT + 9))) [(0, .int .u8), (1, .int .i64), (2, .int .i64), (3, .int .i64), (4, .int .u8), (5, .row 5 (.int .u8)), (6, .int .u8), (7, .int .u32), (8, .bool), (9, .row 5 (.int .u8)), (10, .row 61 (treeD 39999)), (11, .row 58 (.seq (.int .u8) (.seq (.int .i64) (.seq (.int .i64) (.seq (.int .i64) (.seq (.int .u8) (.row 5 (.int .u8)))))))), (12, .row 5 (.int .u8))] [(0, 55), (1, 3), (2, 3), (3, 3), (4, 56), (5, 27), (6, 5), (7, 24), (8, 4), (9, 27), (10, 59), (11, 62), (12, 27)]) : Bool) = true
  simp only [pairB, h0, h1, h2, h3, h4, h5, h6, h7, h8, h9, h10, h11, h12, Bool.false_or, Bool.and_true]
  rfl

end Go.Sx

namespace Go.Sx
open Go Go.Proofs

theorem copy86 : CopyRaw Tryz.prog 86 5 1 :=
  CopyRaw.of_codeB Tryz.func86 Tryz.ntmps86 rfl (by kernel_rfl) Tryz.underlying27 (by kernel_rfl) rfl

theorem own86 : OwnOK Tryz.prog 2000 86 false (.row 5 (.int .u8)) :=
  OwnOK.rowB copy86 (Nat.le_refl _) rfl (by kernel_rfl)

theorem own108 : OwnOK Tryz.prog 2000 108 true (.seq (.int .u8) (.seq (.int .i64) (.seq (.int .i64) (.seq (.int .i64) (.seq (.int .u8) (.row 5 (.int .u8))))))) := by
  refine OwnOK.of_run (T := 58) (l := [(5, (.row 5 (.int .u8)))]) Tryz.func108 Tryz.ntmps108 (by kernel_rfl) (z := (zeroAt Tryz.prog 58).getD default) (by kernel_rfl) (by kernel_rfl) rfl ?_ (coverB_P _ _ (by kernel_rfl)) (partsB_ok (by kernel_rfl))
  refine OwnRun.cons (by unfold LB; omega) own86 (D.okB_ok (by kernel_rfl)) (by kernel_rfl) (by kernel_rfl) (by kernel_rfl) (by kernel_rfl) (by kernel_rfl) (by kernel_rfl) (by kernel_rfl) ?_
  exact OwnRun.fin rfl (by kernel_rfl) (by kernel_rfl) (by kernel_rfl)

theorem copy182 : CopyRaw Tryz.prog 182 61 5 :=
  CopyRaw.of_codeB Tryz.func182 Tryz.ntmps182 rfl (by kernel_rfl) Tryz.underlying59 (by kernel_rfl) rfl

set_option maxRecDepth 100000 in
set_option maxHeartbeats 3200000 in
theorem own153 (nn : Nat) (hown109 : OwnOK Tryz.prog 2000 109 true (treeD nn)) : OwnOK Tryz.prog 2000 153 false (.row 61 (treeD nn)) := by
  intro w χ Z cs hinv hZ hsz hr hs
  obtain ⟨ao, l, c, k1, k2, k3, k4⟩ := hr
  have k1 : cs[0]? = some (.slice ao l c) := k1
  simp only [SmV] at hs
  obtain ⟨s1, s2⟩ := hs ao l c k1
  have hv : cs.getD 0 undef = .slice ao l c := by rw [Array.getD_eq_getD_getElem?, k1]; rfl
  simp only [Bool.false_eq_true, if_false, hv]
  have hes : (treeD nn).size = 5 := treeD_size nn
  have hcp := copy182 w ao l c (by omega) (by have h := row_cells (e := treeD nn) (by rw [treeD_size]; decide) k4 s2; rw [treeD_size] at h; exact h)
  have hokr : (D.row 61 (treeD nn)).ok Tryz.prog := treeD_rowok nn (treeD_ok nn)
  have hagT : aggOf Tryz.prog 61 = some true := by kernel_rfl
  have hszT : sizeAt Tryz.prog 61 = some 5 := by kernel_rfl
  go_enter Tryz.func153, Tryz.ntmps153
  go_wp2_with ((refine hcp.mono ?_; clear hcp; intro en w1 hp; rcases hp with ⟨rfl, rfl, rfl⟩ | ⟨cap, ncs, b, o, h0, hao, rfl, q1, q2, rfl, q3, q4, z', q5, q6⟩))
  · refine wp_loop_rounds 1 ?_
    rw [rounds_succ]
    go_wp2
    go_ret
    exact own_nil hinv k1
  · have hk4 : ∀ j, j < l → Rd Z w (treeD nn) b (o + j * ((treeD nn) : D).size) := by
      rcases k4 with k4 | ⟨b', o', hao', k4⟩
      · omega
      · rw [hao] at hao'; cases hao'; exact k4
    have hst : CpRel Tryz.prog 2000 w χ χ w.heap.size 61 l cap b o (treeD nn) z'.cells l 0 (w.alloc (Obj.cells ncs 61)).drew ncs := CpRel.start hinv (by rw [treeD_size]; exact q3) (by rw [treeD_size]; exact q4) (by rw [treeD_size]; exact q6)
    clear q3 q4 q6 k4
    generalize (w.alloc (Obj.cells ncs 61)).drew = w2 at *
    go_loopg [3] l (fun k p wr => ∃ (i : Nat) (χr : Chi) (ncs : Array Value), p = .int .i64 i ∧ CpRel Tryz.prog 2000 w χ χr w.heap.size 61 l cap b o (treeD nn) z'.cells k i wr ncs)
    · exact ⟨0, χ, ncs, by simp, hst⟩
    · clear hst ncs
      obtain ⟨i, χr, ncs, rfl, hrl⟩ := hrel
      cases gk with
      | zero =>
        have hil : decide (i < l) = false := by have := hrl.ik; simp; omega
        go_wp2
        go_ret
        exact CpRel.out (by unfold LB; omega) hokr rfl (by rw [show z' = (zeroAt Tryz.prog 61).getD default by rw [q5]; rfl, treeD_cts]; kernel_rfl) s1 q1 q2 hao k1 hrl
      | succ k =>
        have hil : decide (i < l) = true := by have := hrl.ik; simp; omega
        have hlt : i < l := by have := hrl.ik; omega
        have hi0 : (0 : Int) ≤ (i : Int) := by omega
        have hi1 : (i : Int) < (l : Int) := by omega
        have hi40 : (i : Int) ≤ 2000 := by omega
        obtain ⟨hle, hcall⟩ := hrl.round (agg := true) (h := 109) (by unfold LB; omega) hokr.2.2 q1 (by rw [treeD_size]; decide) hown109 hZ hk4 (fun j hj => s2 b o hao j hj)
        have hblk := hrl.blk
        rw [hes] at hle hcall
        try simp only [Nat.mul_one] at hle hcall
        go_wp2_with (first
          | (refine wpList_loadP rfl 61 _ rfl true hagT 5 hszT (by decide) w.heap.size (i * 5) _ rfl (by omega) ncs 61 hblk hle ?_)
          | (refine hcall.mono ?_; clear hcall; rintro en w3 ⟨cs', χ', rfl, hpc, hcs', hone, hblk3, hrl2⟩)
          | (refine wpList_storeP rfl 61 _ _ rfl rfl 5 hszT w.heap.size (i * 5) _ rfl (by omega) cs' hpc hcs' hone ncs 61 hblk3 hle ?_))
        go_roundg k
        case measure => omega
        case rel => exact ⟨i + 1, χ', _, by go_num, hrl2⟩

theorem own109 : ∀ nn, OwnOK Tryz.prog 2000 109 true (treeD nn)
  | 0 => fun w χ Z cs _ _ _ _ hs => by simp only [treeD, SmV] at hs
  | nn + 1 => by
    refine OwnOK.of_run (T := 61) (l := [(3, .row 5 (.int .u8)), (4, .row 61 (treeD nn))]) Tryz.func109 Tryz.ntmps109 (by kernel_rfl) (z := (zeroAt Tryz.prog 61).getD default) (by kernel_rfl) (by kernel_rfl) rfl ?_ (tree_cover nn) (tree_parts nn)
    refine OwnRun.cons (by unfold LB; omega) own86 (D.okB_ok (by kernel_rfl)) (by kernel_rfl) (by kernel_rfl) (by kernel_rfl) (by kernel_rfl) (by kernel_rfl) (by kernel_rfl) (by kernel_rfl) ?_
    refine OwnRun.cons (by unfold LB; omega) (own153 nn (own109 nn)) (treeD_rowok nn (treeD_ok nn)) (by kernel_rfl) (by kernel_rfl) (by kernel_rfl) (by kernel_rfl) (by kernel_rfl) (by kernel_rfl) (by kernel_rfl) ?_
    exact OwnRun.fin rfl (by kernel_rfl) (by kernel_rfl) (by kernel_rfl)

theorem copy154 : CopyRaw Tryz.prog 154 58 6 :=
  CopyRaw.of_codeB Tryz.func154 Tryz.ntmps154 rfl (by kernel_rfl) Tryz.underlying62 (by kernel_rfl) rfl

set_option maxRecDepth 100000 in
set_option maxHeartbeats 3200000 in
theorem own110 : OwnOK Tryz.prog 2000 110 false (.row 58 (.seq (.int .u8) (.seq (.int .i64) (.seq (.int .i64) (.seq (.int .i64) (.seq (.int .u8) (.row 5 (.int .u8)))))))) := by
  intro w χ Z cs hinv hZ hsz hr hs
  obtain ⟨ao, l, c, k1, k2, k3, k4⟩ := hr
  have k1 : cs[0]? = some (.slice ao l c) := k1
  simp only [SmV] at hs
  obtain ⟨s1, s2⟩ := hs ao l c k1
  have hv : cs.getD 0 undef = .slice ao l c := by rw [Array.getD_eq_getD_getElem?, k1]; rfl
  simp only [Bool.false_eq_true, if_false, hv]
  have hes : ((.seq (.int .u8) (.seq (.int .i64) (.seq (.int .i64) (.seq (.int .i64) (.seq (.int .u8) (.row 5 (.int .u8))))))) : D).size = 6 := rfl
  have hcp := copy154 w ao l c (by omega) (row_cells (e := (.seq (.int .u8) (.seq (.int .i64) (.seq (.int .i64) (.seq (.int .i64) (.seq (.int .u8) (.row 5 (.int .u8)))))))) (by decide) k4 s2)
  have hokr : (D.row 58 (.seq (.int .u8) (.seq (.int .i64) (.seq (.int .i64) (.seq (.int .i64) (.seq (.int .u8) (.row 5 (.int .u8)))))))).ok Tryz.prog := D.okB_ok (by kernel_rfl)
  have hagT : aggOf Tryz.prog 58 = some true := by kernel_rfl
  have hszT : sizeAt Tryz.prog 58 = some 6 := by kernel_rfl
  go_enter Tryz.func110, Tryz.ntmps110
  go_wp2_with ((refine hcp.mono ?_; clear hcp; intro en w1 hp; rcases hp with ⟨rfl, rfl, rfl⟩ | ⟨cap, ncs, b, o, h0, hao, rfl, q1, q2, rfl, q3, q4, z', q5, q6⟩))
  · refine wp_loop_rounds 1 ?_
    rw [rounds_succ]
    go_wp2
    go_ret
    exact own_nil hinv k1
  · have hk4 : ∀ j, j < l → Rd Z w (.seq (.int .u8) (.seq (.int .i64) (.seq (.int .i64) (.seq (.int .i64) (.seq (.int .u8) (.row 5 (.int .u8))))))) b (o + j * ((.seq (.int .u8) (.seq (.int .i64) (.seq (.int .i64) (.seq (.int .i64) (.seq (.int .u8) (.row 5 (.int .u8))))))) : D).size) := by
      rcases k4 with k4 | ⟨b', o', hao', k4⟩
      · omega
      · rw [hao] at hao'; cases hao'; exact k4
    have hst : CpRel Tryz.prog 2000 w χ χ w.heap.size 58 l cap b o (.seq (.int .u8) (.seq (.int .i64) (.seq (.int .i64) (.seq (.int .i64) (.seq (.int .u8) (.row 5 (.int .u8))))))) z'.cells l 0 (w.alloc (Obj.cells ncs 58)).drew ncs := CpRel.start hinv q3 q4 q6
    clear q3 q4 q6 k4
    generalize (w.alloc (Obj.cells ncs 58)).drew = w2 at *
    go_loopg [3] l (fun k p wr => ∃ (i : Nat) (χr : Chi) (ncs : Array Value), p = .int .i64 i ∧ CpRel Tryz.prog 2000 w χ χr w.heap.size 58 l cap b o (.seq (.int .u8) (.seq (.int .i64) (.seq (.int .i64) (.seq (.int .i64) (.seq (.int .u8) (.row 5 (.int .u8))))))) z'.cells k i wr ncs)
    · exact ⟨0, χ, ncs, by simp, hst⟩
    · clear hst ncs
      obtain ⟨i, χr, ncs, rfl, hrl⟩ := hrel
      cases gk with
      | zero =>
        have hil : decide (i < l) = false := by have := hrl.ik; simp; omega
        go_wp2
        go_ret
        exact CpRel.out (by unfold LB; omega) hokr rfl (by rw [show z' = (zeroAt Tryz.prog 58).getD default by rw [q5]; rfl]; kernel_rfl) s1 q1 q2 hao k1 hrl
      | succ k =>
        have hil : decide (i < l) = true := by have := hrl.ik; simp; omega
        have hlt : i < l := by have := hrl.ik; omega
        have hi0 : (0 : Int) ≤ (i : Int) := by omega
        have hi1 : (i : Int) < (l : Int) := by omega
        have hi40 : (i : Int) ≤ 2000 := by omega
        obtain ⟨hle, hcall⟩ := hrl.round (agg := true) (h := 108) (by unfold LB; omega) hokr.2.2 q1 (by decide) own108 hZ hk4 (fun j hj => s2 b o hao j hj)
        have hblk := hrl.blk
        rw [hes] at hle hcall
        try simp only [Nat.mul_one] at hle hcall
        go_wp2_with (first
          | (refine wpList_loadP rfl 58 _ rfl true hagT 6 hszT (by decide) w.heap.size (i * 6) _ rfl (by omega) ncs 58 hblk hle ?_)
          | (refine hcall.mono ?_; clear hcall; rintro en w3 ⟨cs', χ', rfl, hpc, hcs', hone, hblk3, hrl2⟩)
          | (refine wpList_storeP rfl 58 _ _ rfl rfl 6 hszT w.heap.size (i * 6) _ rfl (by omega) cs' hpc hcs' hone ncs 58 hblk3 hle ?_))
        go_roundg k
        case measure => omega
        case rel => exact ⟨i + 1, χ', _, by go_num, hrl2⟩

theorem own24 : OwnOK Tryz.prog 2000 24 true dT := by
  refine OwnOK.of_run (T := 64) (l := [(0, (.seq (.int .u8) (.seq (.int .i64) (.seq (.int .i64) (.seq (.int .i64) (.seq (.int .u8) (.row 5 (.int .u8)))))))), (6, (treeD KT)), (11, (.row 58 (.seq (.int .u8) (.seq (.int .i64) (.seq (.int .i64) (.seq (.int .i64) (.seq (.int .u8) (.row 5 (.int .u8))))))))), (12, (.row 5 (.int .u8)))]) Tryz.func24 Tryz.ntmps24 (by kernel_rfl) (z := (zeroAt Tryz.prog 64).getD default) (by kernel_rfl) (by kernel_rfl) rfl ?_ (.inr (.inr ⟨.inl ((.head _)), .inr (.inr ⟨.inl ((.tail _ (.head _))), .inr (.inr ⟨.inl ((.tail _ (.tail _ (.head _)))), .inl ((.tail _ (.tail _ (.tail _ (.head _)))))⟩)⟩)⟩)) (partsP_ok (by
    intro p hp
    simp only [List.mem_cons, List.not_mem_nil, or_false] at hp
    rcases hp with rfl | rfl | rfl | rfl
    · exact ⟨by simp only [dT, D.size, treeD_size]; decide, .inr (.inl (.inl ⟨rfl, rfl⟩))⟩
    · exact ⟨by simp only [dT, D.size, treeD_size]; decide, .inr (.inr (.inr (.inl (.inl ⟨rfl, rfl⟩))))⟩
    · exact ⟨by simp only [dT, D.size, treeD_size]; decide, .inr (.inr (.inr (.inr (.inr (.inl (⟨rfl, rfl⟩))))))⟩
    · exact ⟨by simp only [dT, D.size, treeD_size]; decide, .inr (.inr (.inr (.inr (.inr (.inr (⟨rfl, rfl⟩))))))⟩
    ))
  refine OwnRun.cons (by unfold LB; omega) own108 (D.okB_ok (by kernel_rfl)) (by kernel_rfl) (by kernel_rfl) (by kernel_rfl) (by kernel_rfl) (by kernel_rfl) (by kernel_rfl) (by kernel_rfl) ?_
  refine OwnRun.cons (by unfold LB; omega) (own109 KT) (treeD_ok KT) (by kernel_rfl) (by kernel_rfl) (by kernel_rfl) (by kernel_rfl) (by kernel_rfl) (by kernel_rfl) (by kernel_rfl) ?_
  refine OwnRun.cons (by unfold LB; omega) own110 (D.okB_ok (by kernel_rfl)) (by kernel_rfl) (by kernel_rfl) (by kernel_rfl) (by kernel_rfl) (by kernel_rfl) (by kernel_rfl) (by kernel_rfl) ?_
  refine OwnRun.cons (by unfold LB; omega) own86 (D.okB_ok (by kernel_rfl)) (by kernel_rfl) (by kernel_rfl) (by kernel_rfl) (by kernel_rfl) (by kernel_rfl) (by kernel_rfl) (by kernel_rfl) ?_
  exact OwnRun.fin rfl (by kernel_rfl) (by kernel_rfl) (by kernel_rfl)

end Go.Sx
