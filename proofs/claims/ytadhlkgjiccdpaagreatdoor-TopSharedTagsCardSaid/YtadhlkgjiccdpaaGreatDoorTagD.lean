/- Part TagD of a proof: helper lemmas; no conditions. -/
import Derived.Test.YtadhlkgjiccdpaaGreatDoorTrA
import Derived.Test.YtadhlkgjiccdpaaGreatDoorLT
import Derived.Test.YtadhlkgjiccdpaaGreatDoorK
import Derived.Test.YtadhlkgjiccdpaaGreatDoorTagW
import Derived.Test.YtadhlkgjiccdpaaGreatDoorProg
import Derived.KernelRfl
import Derived.OwnWalk
import Derived.Test.YtadhlkgjiccdpaaGreatDoorLB
import Derived.WalkKit
import Derived.WalkSpells
import Derived.StillTactics
import Derived.Laws.Pointers
import Derived.Deep.RegionLaw
import Derived.Deep.AppendLies
import Derived.Deep.LoopGhost

set_option linter.unusedSimpArgs false
set_option linter.unusedVariables false

namespace Go.Sx
open Go Go.Proofs

abbrev dT : D := (.seq (treeD KT) (.seq (.int .u8) (.seq (.row 5 (.int .u8)) (.seq (.int .u8) (.seq (.int .u32) (.seq (treeD KT) (.seq (treeD KT) (.seq (.int .i64) (.seq (.row 5 (.int .u8)) .str)))))))))
abbrev glL : List (Nat × List CT) := [(2, [.any]), (3, [.any]), (0, tabC)]

theorem see12 : SeeOK Tryz.prog 3 9 12 ((.row 5 (.int .u8))) :=
  SeeOK.of_code Tryz.func12 rfl Tryz.ntmps12 (by decide) rfl
    (SeeCode.row (by kernel_rfl) (fun x hx => by cases hx; decide) (by kernel_rfl) Tryz.func95 (by kernel_rfl) (by kernel_rfl) (all95 96 _ Tryz.func96 (by kernel_rfl) (by kernel_rfl) see96))

theorem mark12 : MarkOK Tryz.prog 3 9 12 ((.row 5 (.int .u8))) :=
  MarkOK.of_code Tryz.func12 rfl Tryz.ntmps12 (by decide) rfl
    (MarkCode.row (by kernel_rfl) (fun x hx => by cases hx; decide) (by kernel_rfl) (by kernel_rfl) Tryz.func95 (by kernel_rfl) (by kernel_rfl) (allm95 96 _ Tryz.func96 (by kernel_rfl) (by kernel_rfl) mark96))

theorem see114 (nn : Nat) (hh : SeeOK Tryz.prog 3 9 31 (treeD nn)) : SeeOK Tryz.prog 3 9 114 (.row 61 (treeD nn)) :=
  SeeOK.of_code Tryz.func114 rfl Tryz.ntmps114 (by decide) rfl
    (SeeCode.row (by kernel_rfl) (fun x hx => by cases hx; decide) (by kernel_rfl) Tryz.func157 (by kernel_rfl) (by kernel_rfl) (all157 nn 31 _ Tryz.func31 (by kernel_rfl) (by kernel_rfl) hh))

theorem mark114 (nn : Nat) (hh : MarkOK Tryz.prog 3 9 31 (treeD nn)) : MarkOK Tryz.prog 3 9 114 (.row 61 (treeD nn)) :=
  MarkOK.of_code Tryz.func114 rfl Tryz.ntmps114 (by decide) rfl
    (MarkCode.row (by kernel_rfl) (fun x hx => by cases hx; decide) (by kernel_rfl) (tauT.trans (treeD_cts nn).symm) Tryz.func157 (by kernel_rfl) (by kernel_rfl) (allm157 nn 31 _ Tryz.func31 (by kernel_rfl) (by kernel_rfl) hh))

theorem see31 : ∀ nn, SeeOK Tryz.prog 3 9 31 (treeD nn)
  | 0 => fun w Z be oe base bx ox at_ vn vs ns ss _ _ _ hroom => hroom.fit.elim
  | nn + 1 => SeeOK.of_code Tryz.func31 rfl Tryz.ntmps31 (by decide) rfl
    (SeeCode.seq rfl (SeeCode.fieldB see96 (by kernel_rfl) (fun x hx => by cases hx; decide) (by kernel_rfl) (by kernel_rfl))
      (SeeCode.seq rfl (SeeCode.fieldB see113 (by kernel_rfl) (fun x hx => by cases hx; decide) (by kernel_rfl) (by kernel_rfl))
      (SeeCode.seq rfl (SeeCode.fieldB see99 (by kernel_rfl) (fun x hx => by cases hx; decide) (by kernel_rfl) (by kernel_rfl))
      (SeeCode.seq rfl (SeeCode.fieldB see12 (by kernel_rfl) (fun x hx => by cases hx; decide) (by kernel_rfl) (by kernel_rfl))
      (SeeCode.fieldB (see114 nn (see31 nn)) (by kernel_rfl) (fun x hx => by cases hx; decide) (by kernel_rfl) (by kernel_rfl))))))

theorem mark31 : ∀ nn, MarkOK Tryz.prog 3 9 31 (treeD nn)
  | 0 => fun w χ be oe base bx ox at_ vn vs ns ss _ _ _ _ hroom => hroom.fit.elim
  | nn + 1 => MarkOK.of_code Tryz.func31 rfl Tryz.ntmps31 (by decide) rfl
    (MarkCode.seq (MarkCode.fieldB mark96 (by kernel_rfl) (fun x hx => by cases hx; decide) (by kernel_rfl) (by kernel_rfl))
      (MarkCode.seq (MarkCode.fieldB mark113 (by kernel_rfl) (fun x hx => by cases hx; decide) (by kernel_rfl) (by kernel_rfl))
      (MarkCode.seq (MarkCode.fieldB mark99 (by kernel_rfl) (fun x hx => by cases hx; decide) (by kernel_rfl) (by kernel_rfl))
      (MarkCode.seq (MarkCode.fieldB mark12 (by kernel_rfl) (fun x hx => by cases hx; decide) (by kernel_rfl) (by kernel_rfl))
      (MarkCode.fieldB (mark114 nn (mark31 nn)) (by kernel_rfl) (fun x hx => by cases hx; decide) (by kernel_rfl) (by kernel_rfl))))))

theorem see46 : SeeOK Tryz.prog 3 9 46 ((.seq (treeD KT) (.seq (.int .u8) (.seq (.row 5 (.int .u8)) (.seq (.int .u8) (.seq (.int .u32) (.seq (treeD KT) (.seq (treeD KT) (.seq (.int .i64) (.seq (.row 5 (.int .u8)) .str)))))))))) :=
  SeeOK.of_code Tryz.func46 rfl Tryz.ntmps46 (by decide) rfl
    (SeeCode.seq (treeD_rows KT) (SeeCode.fieldB (see31 KT) (by kernel_rfl) (fun x hx => by cases hx; decide) (by kernel_rfl) (by kernel_rfl))
      (SeeCode.seq rfl (SeeCode.fieldB see120 (by kernel_rfl) (fun x hx => by cases hx; decide) (by kernel_rfl) (by kernel_rfl))
      (SeeCode.seq rfl (SeeCode.fieldB see12 (by kernel_rfl) (fun x hx => by cases hx; decide) (by kernel_rfl) (by kernel_rfl))
      (SeeCode.seq rfl (SeeCode.fieldB see96 (by kernel_rfl) (fun x hx => by cases hx; decide) (by kernel_rfl) (by kernel_rfl))
      (SeeCode.seq rfl (SeeCode.fieldB see113 (by kernel_rfl) (fun x hx => by cases hx; decide) (by kernel_rfl) (by kernel_rfl))
      (SeeCode.seq (treeD_rows KT) (SeeCode.fieldB (see31 KT) (by kernel_rfl) (fun x hx => by cases hx; decide) (by kernel_rfl) (by kernel_rfl))
      (SeeCode.seq (treeD_rows KT) (SeeCode.fieldB (see31 KT) (by kernel_rfl) (fun x hx => by cases hx; decide) (by kernel_rfl) (by kernel_rfl))
      (SeeCode.seq rfl (SeeCode.fieldB see121 (by kernel_rfl) (fun x hx => by cases hx; decide) (by kernel_rfl) (by kernel_rfl))
      (SeeCode.seq rfl (SeeCode.fieldB see12 (by kernel_rfl) (fun x hx => by cases hx; decide) (by kernel_rfl) (by kernel_rfl))
      (SeeCode.fieldB see122 (by kernel_rfl) (fun x hx => by cases hx; decide) (by kernel_rfl) (by kernel_rfl)))))))))))

theorem mark46 : MarkOK Tryz.prog 3 9 46 ((.seq (treeD KT) (.seq (.int .u8) (.seq (.row 5 (.int .u8)) (.seq (.int .u8) (.seq (.int .u32) (.seq (treeD KT) (.seq (treeD KT) (.seq (.int .i64) (.seq (.row 5 (.int .u8)) .str)))))))))) :=
  MarkOK.of_code Tryz.func46 rfl Tryz.ntmps46 (by decide) rfl
    (MarkCode.seq (MarkCode.fieldB (mark31 KT) (by kernel_rfl) (fun x hx => by cases hx; decide) (by kernel_rfl) (by kernel_rfl))
      (MarkCode.seq (MarkCode.fieldB mark120 (by kernel_rfl) (fun x hx => by cases hx; decide) (by kernel_rfl) (by kernel_rfl))
      (MarkCode.seq (MarkCode.fieldB mark12 (by kernel_rfl) (fun x hx => by cases hx; decide) (by kernel_rfl) (by kernel_rfl))
      (MarkCode.seq (MarkCode.fieldB mark96 (by kernel_rfl) (fun x hx => by cases hx; decide) (by kernel_rfl) (by kernel_rfl))
      (MarkCode.seq (MarkCode.fieldB mark113 (by kernel_rfl) (fun x hx => by cases hx; decide) (by kernel_rfl) (by kernel_rfl))
      (MarkCode.seq (MarkCode.fieldB (mark31 KT) (by kernel_rfl) (fun x hx => by cases hx; decide) (by kernel_rfl) (by kernel_rfl))
      (MarkCode.seq (MarkCode.fieldB (mark31 KT) (by kernel_rfl) (fun x hx => by cases hx; decide) (by kernel_rfl) (by kernel_rfl))
      (MarkCode.seq (MarkCode.fieldB mark121 (by kernel_rfl) (fun x hx => by cases hx; decide) (by kernel_rfl) (by kernel_rfl))
      (MarkCode.seq (MarkCode.fieldB mark12 (by kernel_rfl) (fun x hx => by cases hx; decide) (by kernel_rfl) (by kernel_rfl))
      (MarkCode.fieldB mark122 (by kernel_rfl) (fun x hx => by cases hx; decide) (by kernel_rfl) (by kernel_rfl)))))))))))

theorem see55 : SeeOK Tryz.prog 3 9 55 ((.row 5 (.int .u8))) :=
  SeeOK.of_code Tryz.func55 rfl Tryz.ntmps55 (by decide) rfl (SeeCode.handed (by kernel_rfl) (fun x hx => by cases hx; decide) Tryz.func12 (by kernel_rfl) (by kernel_rfl) see12)

theorem mark55 : MarkOK Tryz.prog 3 9 55 ((.row 5 (.int .u8))) :=
  MarkOK.of_code Tryz.func55 rfl Tryz.ntmps55 (by decide) rfl (MarkCode.handed (by kernel_rfl) (fun x hx => by cases hx; decide) Tryz.func12 (by kernel_rfl) (by kernel_rfl) mark12)

theorem see58 : SeeOK Tryz.prog 3 9 58 ((.row 5 (.int .u8))) :=
  SeeOK.of_code Tryz.func58 rfl Tryz.ntmps58 (by decide) rfl (SeeCode.handed (by kernel_rfl) (fun x hx => by cases hx; decide) Tryz.func12 (by kernel_rfl) (by kernel_rfl) see12)

theorem mark58 : MarkOK Tryz.prog 3 9 58 ((.row 5 (.int .u8))) :=
  MarkOK.of_code Tryz.func58 rfl Tryz.ntmps58 (by decide) rfl (MarkCode.handed (by kernel_rfl) (fun x hx => by cases hx; decide) Tryz.func12 (by kernel_rfl) (by kernel_rfl) mark12)

theorem see61 : SeeOK Tryz.prog 3 9 61 ((treeD KT)) :=
  SeeOK.of_code Tryz.func61 rfl Tryz.ntmps61 (by decide) rfl (SeeCode.handed (by kernel_rfl) (fun x hx => by cases hx; decide) Tryz.func31 (by kernel_rfl) (by kernel_rfl) (see31 KT))

theorem mark61 : MarkOK Tryz.prog 3 9 61 ((treeD KT)) :=
  MarkOK.of_code Tryz.func61 rfl Tryz.ntmps61 (by decide) rfl (MarkCode.handed (by kernel_rfl) (fun x hx => by cases hx; decide) Tryz.func31 (by kernel_rfl) (by kernel_rfl) (mark31 KT))

theorem see64 : SeeOK Tryz.prog 3 9 64 ((treeD KT)) :=
  SeeOK.of_code Tryz.func64 rfl Tryz.ntmps64 (by decide) rfl (SeeCode.handed (by kernel_rfl) (fun x hx => by cases hx; decide) Tryz.func31 (by kernel_rfl) (by kernel_rfl) (see31 KT))

theorem mark64 : MarkOK Tryz.prog 3 9 64 ((treeD KT)) :=
  MarkOK.of_code Tryz.func64 rfl Tryz.ntmps64 (by decide) rfl (MarkCode.handed (by kernel_rfl) (fun x hx => by cases hx; decide) Tryz.func31 (by kernel_rfl) (by kernel_rfl) (mark31 KT))

theorem see69 : SeeOK Tryz.prog 3 9 69 ((treeD KT)) :=
  SeeOK.of_code Tryz.func69 rfl Tryz.ntmps69 (by decide) rfl (SeeCode.handed (by kernel_rfl) (fun x hx => by cases hx; decide) Tryz.func31 (by kernel_rfl) (by kernel_rfl) (see31 KT))

theorem mark69 : MarkOK Tryz.prog 3 9 69 ((treeD KT)) :=
  MarkOK.of_code Tryz.func69 rfl Tryz.ntmps69 (by decide) rfl (MarkCode.handed (by kernel_rfl) (fun x hx => by cases hx; decide) Tryz.func31 (by kernel_rfl) (by kernel_rfl) (mark31 KT))

theorem see74 : SeeOK Tryz.prog 3 9 74 ((.row 5 (.int .u8))) :=
  SeeOK.of_code Tryz.func74 rfl Tryz.ntmps74 (by decide) rfl (SeeCode.handed (by kernel_rfl) (fun x hx => by cases hx; decide) Tryz.func12 (by kernel_rfl) (by kernel_rfl) see12)

theorem mark74 : MarkOK Tryz.prog 3 9 74 ((.row 5 (.int .u8))) :=
  MarkOK.of_code Tryz.func74 rfl Tryz.ntmps74 (by decide) rfl (MarkCode.handed (by kernel_rfl) (fun x hx => by cases hx; decide) Tryz.func12 (by kernel_rfl) (by kernel_rfl) mark12)

theorem see81 : SeeOK Tryz.prog 3 9 81 ((treeD KT)) :=
  SeeOK.of_code Tryz.func81 rfl Tryz.ntmps81 (by decide) rfl (SeeCode.handed (by kernel_rfl) (fun x hx => by cases hx; decide) Tryz.func31 (by kernel_rfl) (by kernel_rfl) (see31 KT))

theorem mark81 : MarkOK Tryz.prog 3 9 81 ((treeD KT)) :=
  MarkOK.of_code Tryz.func81 rfl Tryz.ntmps81 (by decide) rfl (MarkCode.handed (by kernel_rfl) (fun x hx => by cases hx; decide) Tryz.func31 (by kernel_rfl) (by kernel_rfl) (mark31 KT))

theorem room55 : Room ((.row 5 (.int .u8))) [] [] := ⟨by decide, by decide, D.whole_fit _ (by kernel_rfl) _⟩

theorem clos55 : ∀ b o, ClosS Tryz.prog 3 9 ⟨55, b, o, ((.row 5 (.int .u8)))⟩ := fun b o => ⟨see55, mark55, (D.okB_ok (by kernel_rfl)), room55, by kernel_rfl⟩

theorem room58 : Room ((.row 5 (.int .u8))) [] [] := ⟨by decide, by decide, D.whole_fit _ (by kernel_rfl) _⟩

theorem clos58 : ∀ b o, ClosS Tryz.prog 3 9 ⟨58, b, o, ((.row 5 (.int .u8)))⟩ := fun b o => ⟨see58, mark58, (D.okB_ok (by kernel_rfl)), room58, by kernel_rfl⟩

theorem room61 : Room ((treeD KT)) [] [] := ⟨by simp only [dT, D.bnd, KT_bnd]; decide, by simp only [dT, D.co, treeD_co]; decide, (KT_fit _)⟩

theorem clos61 : ∀ b o, ClosS Tryz.prog 3 9 ⟨61, b, o, ((treeD KT))⟩ := fun b o => ⟨see61, mark61, (treeD_ok KT), room61, by kernel_rfl⟩

theorem room64 : Room ((treeD KT)) [] [] := ⟨by simp only [dT, D.bnd, KT_bnd]; decide, by simp only [dT, D.co, treeD_co]; decide, (KT_fit _)⟩

theorem clos64 : ∀ b o, ClosS Tryz.prog 3 9 ⟨64, b, o, ((treeD KT))⟩ := fun b o => ⟨see64, mark64, (treeD_ok KT), room64, by kernel_rfl⟩

theorem room69 : Room ((treeD KT)) [] [] := ⟨by simp only [dT, D.bnd, KT_bnd]; decide, by simp only [dT, D.co, treeD_co]; decide, (KT_fit _)⟩

theorem clos69 : ∀ b o, ClosS Tryz.prog 3 9 ⟨69, b, o, ((treeD KT))⟩ := fun b o => ⟨see69, mark69, (treeD_ok KT), room69, by kernel_rfl⟩

theorem room74 : Room ((.row 5 (.int .u8))) [] [] := ⟨by decide, by decide, D.whole_fit _ (by kernel_rfl) _⟩

theorem clos74 : ∀ b o, ClosS Tryz.prog 3 9 ⟨74, b, o, ((.row 5 (.int .u8)))⟩ := fun b o => ⟨see74, mark74, (D.okB_ok (by kernel_rfl)), room74, by kernel_rfl⟩

theorem room81 : Room ((treeD KT)) [] [] := ⟨by simp only [dT, D.bnd, KT_bnd]; decide, by simp only [dT, D.co, treeD_co]; decide, (KT_fit _)⟩

theorem clos81 : ∀ b o, ClosS Tryz.prog 3 9 ⟨81, b, o, ((treeD KT))⟩ := fun b o => ⟨see81, mark81, (treeD_ok KT), room81, by kernel_rfl⟩

theorem okT : dT.ok Tryz.prog := ⟨(treeD_ok KT), ⟨(D.okB_ok (by kernel_rfl)), ⟨(D.okB_ok (by kernel_rfl)), ⟨(D.okB_ok (by kernel_rfl)), ⟨(D.okB_ok (by kernel_rfl)), ⟨(treeD_ok KT), ⟨(treeD_ok KT), (D.okB_ok (by kernel_rfl))⟩⟩⟩⟩⟩⟩⟩

theorem roomT : Room dT [] [] := ⟨by simp only [dT, D.bnd, KT_bnd]; decide, by simp only [dT, D.co, treeD_co]; decide, ⟨(KT_fit _), ⟨(D.whole_fit _ (by kernel_rfl) _), ⟨(D.whole_fit _ (by kernel_rfl) _), ⟨(D.whole_fit _ (by kernel_rfl) _), ⟨(D.whole_fit _ (by kernel_rfl) _), ⟨(KT_fit _), ⟨(KT_fit _), (D.whole_fit _ (by kernel_rfl) _)⟩⟩⟩⟩⟩⟩⟩⟩

theorem rowsT : dT.rows = true := (by simp only [dT, D.rows, D.num, treeD_rows, treeD_num, Bool.and_self, Bool.and_true] <;> rfl)

theorem leavesTy : typeLeaves Tryz.prog 40 88 0 = some [(0, 5), (1, 24), (2, 4), (3, 27), (4, 59), (5, 86), (6, 27), (7, 5), (8, 24), (9, 5), (10, 24), (11, 4), (12, 27), (13, 59), (14, 5), (15, 24), (16, 4), (17, 27), (18, 59), (19, 2), (20, 27), (21, 9)] := by kernel_rfl

theorem kindT : kindB Tryz.prog (KT + 10) dT 88 = true := by
  have h0 : leafB Tryz.prog (kindB Tryz.prog (KT + 9)) (.int .u8) 5 = true := (by kernel_rfl : leafB Tryz.prog (fun _ _ => false) (.int .u8) 5 = true)
  have h1 : leafB Tryz.prog (kindB Tryz.prog (KT + 9)) (.int .u32) 24 = true := (by kernel_rfl : leafB Tryz.prog (fun _ _ => false) (.int .u32) 24 = true)
  have h2 : leafB Tryz.prog (kindB Tryz.prog (KT + 9)) (.bool) 4 = true := (by kernel_rfl : leafB Tryz.prog (fun _ _ => false) (.bool) 4 = true)
  have h3 : leafB Tryz.prog (kindB Tryz.prog (KT + 9)) (.row 5 (.int .u8)) 27 = true := leafB_mono (fun _ _ h => kindB_le (by rw [KT_eq]; omega) h) (by kernel_rfl : leafB Tryz.prog (kindB Tryz.prog 30) (.row 5 (.int .u8)) 27 = true)
  have h4 : leafB Tryz.prog (kindB Tryz.prog (KT + 9)) (.row 61 (treeD 39999)) 59 = true := by
    have u : Tryz.prog.underlying 59 = some (.slice 61) := by kernel_rfl
    have c : Tryz.prog.cellsOf 61 = 5 := by kernel_rfl
    simp only [leafB, u, c, treeD_size, treeD_kind 39999 (KT + 7) (by rw [KT_eq]; omega)]; rfl
  have h5 : leafB Tryz.prog (kindB Tryz.prog (KT + 9)) (.int .u8) 86 = true := (by kernel_rfl : leafB Tryz.prog (fun _ _ => false) (.int .u8) 86 = true)
  have h6 : leafB Tryz.prog (kindB Tryz.prog (KT + 9)) (.row 5 (.int .u8)) 27 = true := leafB_mono (fun _ _ h => kindB_le (by rw [KT_eq]; omega) h) (by kernel_rfl : leafB Tryz.prog (kindB Tryz.prog 30) (.row 5 (.int .u8)) 27 = true)
  have h7 : leafB Tryz.prog (kindB Tryz.prog (KT + 9)) (.int .u8) 5 = true := (by kernel_rfl : leafB Tryz.prog (fun _ _ => false) (.int .u8) 5 = true)
  have h8 : leafB Tryz.prog (kindB Tryz.prog (KT + 9)) (.int .u32) 24 = true := (by kernel_rfl : leafB Tryz.prog (fun _ _ => false) (.int .u32) 24 = true)
  have h9 : leafB Tryz.prog (kindB Tryz.prog (KT + 9)) (.int .u8) 5 = true := (by kernel_rfl : leafB Tryz.prog (fun _ _ => false) (.int .u8) 5 = true)
  have h10 : leafB Tryz.prog (kindB Tryz.prog (KT + 9)) (.int .u32) 24 = true := (by kernel_rfl : leafB Tryz.prog (fun _ _ => false) (.int .u32) 24 = true)
  have h11 : leafB Tryz.prog (kindB Tryz.prog (KT + 9)) (.bool) 4 = true := (by kernel_rfl : leafB Tryz.prog (fun _ _ => false) (.bool) 4 = true)
  have h12 : leafB Tryz.prog (kindB Tryz.prog (KT + 9)) (.row 5 (.int .u8)) 27 = true := leafB_mono (fun _ _ h => kindB_le (by rw [KT_eq]; omega) h) (by kernel_rfl : leafB Tryz.prog (kindB Tryz.prog 30) (.row 5 (.int .u8)) 27 = true)
  have h13 : leafB Tryz.prog (kindB Tryz.prog (KT + 9)) (.row 61 (treeD 39999)) 59 = true := by
    have u : Tryz.prog.underlying 59 = some (.slice 61) := by kernel_rfl
    have c : Tryz.prog.cellsOf 61 = 5 := by kernel_rfl
    simp only [leafB, u, c, treeD_size, treeD_kind 39999 (KT + 7) (by rw [KT_eq]; omega)]; rfl
  have h14 : leafB Tryz.prog (kindB Tryz.prog (KT + 9)) (.int .u8) 5 = true := (by kernel_rfl : leafB Tryz.prog (fun _ _ => false) (.int .u8) 5 = true)
  have h15 : leafB Tryz.prog (kindB Tryz.prog (KT + 9)) (.int .u32) 24 = true := (by kernel_rfl : leafB Tryz.prog (fun _ _ => false) (.int .u32) 24 = true)
  have h16 : leafB Tryz.prog (kindB Tryz.prog (KT + 9)) (.bool) 4 = true := (by kernel_rfl : leafB Tryz.prog (fun _ _ => false) (.bool) 4 = true)
  have h17 : leafB Tryz.prog (kindB Tryz.prog (KT + 9)) (.row 5 (.int .u8)) 27 = true := leafB_mono (fun _ _ h => kindB_le (by rw [KT_eq]; omega) h) (by kernel_rfl : leafB Tryz.prog (kindB Tryz.prog 30) (.row 5 (.int .u8)) 27 = true)
  have h18 : leafB Tryz.prog (kindB Tryz.prog (KT + 9)) (.row 61 (treeD 39999)) 59 = true := by
    have u : Tryz.prog.underlying 59 = some (.slice 61) := by kernel_rfl
    have c : Tryz.prog.cellsOf 61 = 5 := by kernel_rfl
    simp only [leafB, u, c, treeD_size, treeD_kind 39999 (KT + 7) (by rw [KT_eq]; omega)]; rfl
  have h19 : leafB Tryz.prog (kindB Tryz.prog (KT + 9)) (.int .i64) 2 = true := (by kernel_rfl : leafB Tryz.prog (fun _ _ => false) (.int .i64) 2 = true)
  have h20 : leafB Tryz.prog (kindB Tryz.prog (KT + 9)) (.row 5 (.int .u8)) 27 = true := leafB_mono (fun _ _ h => kindB_le (by rw [KT_eq]; omega) h) (by kernel_rfl : leafB Tryz.prog (kindB Tryz.prog 30) (.row 5 (.int .u8)) 27 = true)
  have h21 : leafB Tryz.prog (kindB Tryz.prog (KT + 9)) (.str) 9 = true := (by kernel_rfl : leafB Tryz.prog (fun _ _ => false) (.str) 9 = true)
  unfold kindB
  rw [leavesTy]
  show ((false || pairB (leafB Tryz.prog (kindB Tryz.prog (KT + 9))) [(0, .int .u8), (1, .int .u32), (2, .bool), (3, .row 5 (.int .u8)), (4, .row 61 (treeD 39999)), (5, .int .u8), (6, .row 5 (.int .u8)), (7, .int .u8), (8, .int .u32), (9, .int .u8), (10, .int .u32), (11, .bool), (12, .row 5 (.int .u8)), (13, .row 61 (treeD 39999)), (14, .int .u8), (15, .int .u32), (16, .bool), (17, .row 5 (.int .u8)), (18, .row 61 (treeD 39999)), (19, .int .i64), (20, .row 5 (.int .u8)), (21, .str)] [(0, 5), (1, 24), (2, 4), (3, 27), (4, 59), (5, 86), (6, 27), (7, 5), (8, 24), (9, 5), (10, 24), (11, 4), (12, 27), (13, 59), (14, 5), (15, 24), (16, 4), (17, 27), (18, 59), (19, 2), (20, 27), (21, 9)]) : Bool) = true
  simp only [pairB, h0, h1, h2, h3, h4, h5, h6, h7, h8, h9, h10, h11, h12, h13, h14, h15, h16, h17, h18, h19, h20, h21, Bool.false_or, Bool.and_true]
  rfl

end Go.Sx

namespace Go.Sx
open Go Go.Proofs

theorem copy86 : CopyRaw Tryz.prog 86 5 1 :=
  CopyRaw.of_codeB Tryz.func86 Tryz.ntmps86 rfl (by kernel_rfl) Tryz.underlying27 (by kernel_rfl) rfl

theorem own86 : OwnOK Tryz.prog 2000 86 false (.row 5 (.int .u8)) :=
  OwnOK.rowB copy86 (Nat.le_refl _) rfl (by kernel_rfl)

theorem copy182 : CopyRaw Tryz.prog 182 61 5 :=
  CopyRaw.of_codeB Tryz.func182 Tryz.ntmps182 rfl (by kernel_rfl) Tryz.underlying59 (by kernel_rfl) rfl

set_option maxRecDepth 100000 in
set_option maxHeartbeats 3200000 in
theorem own153 (nn : Nat) (hown109 : OwnOK Tryz.prog 2000 109 true (treeD nn)) : OwnOK Tryz.prog 2000 153 false (.row 61 (treeD nn)) := by
  intro w χ Z cs hinv hZ hsz hr hs
  obtain ⟨ao, l, c, k1, k2, k3, k4⟩ := hr
  have k1 : cs[0]? = some (.slice ao l c) := k1
  simp only [SmV] at hs
  obtain ⟨s1, s2⟩ := hs ao l c k1
  have hv : cs.getD 0 undef = .slice ao l c := by rw [Array.getD_eq_getD_getElem?, k1]; rfl
  simp only [Bool.false_eq_true, if_false, hv]
  have hes : (treeD nn).size = 5 := treeD_size nn
  have hcp := copy182 w ao l c (by omega) (by have h := row_cells (e := treeD nn) (by rw [treeD_size]; decide) k4 s2; rw [treeD_size] at h; exact h)
  have hokr : (D.row 61 (treeD nn)).ok Tryz.prog := treeD_rowok nn (treeD_ok nn)
  have hagT : aggOf Tryz.prog 61 = some true := by kernel_rfl
  have hszT : sizeAt Tryz.prog 61 = some 5 := by kernel_rfl
  go_enter Tryz.func153, Tryz.ntmps153
  go_wp2_with ((refine hcp.mono ?_; clear hcp; intro en w1 hp; rcases hp with ⟨rfl, rfl, rfl⟩ | ⟨cap, ncs, b, o, h0, hao, rfl, q1, q2, rfl, q3, q4, z', q5, q6⟩))
  · refine wp_loop_rounds 1 ?_
    rw [rounds_succ]
    go_wp2
    go_ret
    exact own_nil hinv k1
  · have hk4 : ∀ j, j < l → Rd Z w (treeD nn) b (o + j * ((treeD nn) : D).size) := by
      rcases k4 with k4 | ⟨b', o', hao', k4⟩
      · omega
      · rw [hao] at hao'; cases hao'; exact k4
    have hst : CpRel Tryz.prog 2000 w χ χ w.heap.size 61 l cap b o (treeD nn) z'.cells l 0 (w.alloc (Obj.cells ncs 61)).drew ncs := CpRel.start hinv (by rw [treeD_size]; exact q3) (by rw [treeD_size]; exact q4) (by rw [treeD_size]; exact q6)
    clear q3 q4 q6 k4
    generalize (w.alloc (Obj.cells ncs 61)).drew = w2 at *
    go_loopg [3] l (fun k p wr => ∃ (i : Nat) (χr : Chi) (ncs : Array Value), p = .int .i64 i ∧ CpRel Tryz.prog 2000 w χ χr w.heap.size 61 l cap b o (treeD nn) z'.cells k i wr ncs)
    · exact ⟨0, χ, ncs, by simp, hst⟩
    · clear hst ncs
      obtain ⟨i, χr, ncs, rfl, hrl⟩ := hrel
      cases gk with
      | zero =>
        have hil : decide (i < l) = false := by have := hrl.ik; simp; omega
        go_wp2
        go_ret
        exact CpRel.out (by unfold LB; omega) hokr rfl (by rw [show z' = (zeroAt Tryz.prog 61).getD default by rw [q5]; rfl, treeD_cts]; kernel_rfl) s1 q1 q2 hao k1 hrl
      | succ k =>
        have hil : decide (i < l) = true := by have := hrl.ik; simp; omega
        have hlt : i < l := by have := hrl.ik; omega
        have hi0 : (0 : Int) ≤ (i : Int) := by omega
        have hi1 : (i : Int) < (l : Int) := by omega
        have hi40 : (i : Int) ≤ 2000 := by omega
        obtain ⟨hle, hcall⟩ := hrl.round (agg := true) (h := 109) (by unfold LB; omega) hokr.2.2 q1 (by rw [treeD_size]; decide) hown109 hZ hk4 (fun j hj => s2 b o hao j hj)
        have hblk := hrl.blk
        rw [hes] at hle hcall
        try simp only [Nat.mul_one] at hle hcall
        go_wp2_with (first
          | (refine wpList_loadP rfl 61 _ rfl true hagT 5 hszT (by decide) w.heap.size (i * 5) _ rfl (by omega) ncs 61 hblk hle ?_)
          | (refine hcall.mono ?_; clear hcall; rintro en w3 ⟨cs', χ', rfl, hpc, hcs', hone, hblk3, hrl2⟩)
          | (refine wpList_storeP rfl 61 _ _ rfl rfl 5 hszT w.heap.size (i * 5) _ rfl (by omega) cs' hpc hcs' hone ncs 61 hblk3 hle ?_))
        go_roundg k
        case measure => omega
        case rel => exact ⟨i + 1, χ', _, by go_num, hrl2⟩

theorem own109 : ∀ nn, OwnOK Tryz.prog 2000 109 true (treeD nn)
  | 0 => fun w χ Z cs _ _ _ _ hs => by simp only [treeD, SmV] at hs
  | nn + 1 => by
    refine OwnOK.of_run (T := 61) (l := [(3, .row 5 (.int .u8)), (4, .row 61 (treeD nn))]) Tryz.func109 Tryz.ntmps109 (by kernel_rfl) (z := (zeroAt Tryz.prog 61).getD default) (by kernel_rfl) (by kernel_rfl) rfl ?_ (tree_cover nn) (tree_parts nn)
    refine OwnRun.cons (by unfold LB; omega) own86 (D.okB_ok (by kernel_rfl)) (by kernel_rfl) (by kernel_rfl) (by kernel_rfl) (by kernel_rfl) (by kernel_rfl) (by kernel_rfl) (by kernel_rfl) ?_
    refine OwnRun.cons (by unfold LB; omega) (own153 nn (own109 nn)) (treeD_rowok nn (treeD_ok nn)) (by kernel_rfl) (by kernel_rfl) (by kernel_rfl) (by kernel_rfl) (by kernel_rfl) (by kernel_rfl) (by kernel_rfl) ?_
    exact OwnRun.fin rfl (by kernel_rfl) (by kernel_rfl) (by kernel_rfl)

theorem own45 : OwnOK Tryz.prog 2000 45 true dT := by
  refine OwnOK.of_run (T := 88) (l := [(0, (treeD KT)), (6, (.row 5 (.int .u8))), (9, (treeD KT)), (14, (treeD KT)), (20, (.row 5 (.int .u8)))]) Tryz.func45 Tryz.ntmps45 (by kernel_rfl) (z := (zeroAt Tryz.prog 88).getD default) (by kernel_rfl) (by kernel_rfl) rfl ?_ (.inr (.inr ⟨.inl ((.head _)), .inr (.inr ⟨.inr (by kernel_rfl), .inr (.inr ⟨.inl ((.tail _ (.head _))), .inr (.inr ⟨.inr (by kernel_rfl), .inr (.inr ⟨.inr (by kernel_rfl), .inr (.inr ⟨.inl ((.tail _ (.tail _ (.head _)))), .inr (.inr ⟨.inl ((.tail _ (.tail _ (.tail _ (.head _))))), .inr (.inr ⟨.inr (by kernel_rfl), .inr (.inr ⟨.inl ((.tail _ (.tail _ (.tail _ (.tail _ (.head _)))))), .inr (by kernel_rfl)⟩)⟩)⟩)⟩)⟩)⟩)⟩)⟩)⟩)) (partsP_ok (by
    intro p hp
    simp only [List.mem_cons, List.not_mem_nil, or_false] at hp
    rcases hp with rfl | rfl | rfl | rfl | rfl
    · exact ⟨by simp only [dT, D.size, treeD_size]; decide, .inr (.inl (.inl ⟨rfl, rfl⟩))⟩
    · exact ⟨by simp only [dT, D.size, treeD_size]; decide, .inr (.inr (.inr (.inr (.inr (.inl (⟨rfl, rfl⟩))))))⟩
    · exact ⟨by simp only [dT, D.size, treeD_size]; decide, .inr (.inr (.inr (.inr (.inr (.inr (.inr (.inr (.inr (.inr (.inr (.inl (.inl ⟨rfl, rfl⟩))))))))))))⟩
    · exact ⟨by simp only [dT, D.size, treeD_size]; decide, .inr (.inr (.inr (.inr (.inr (.inr (.inr (.inr (.inr (.inr (.inr (.inr (.inr (.inl (.inl ⟨rfl, rfl⟩))))))))))))))⟩
    · exact ⟨by simp only [dT, D.size, treeD_size]; decide, .inr (.inr (.inr (.inr (.inr (.inr (.inr (.inr (.inr (.inr (.inr (.inr (.inr (.inr (.inr (.inr (.inr (.inl (⟨rfl, rfl⟩))))))))))))))))))⟩
    ))
  refine OwnRun.cons (by unfold LB; omega) (own109 KT) (treeD_ok KT) (by kernel_rfl) (by kernel_rfl) (by kernel_rfl) (by kernel_rfl) (by kernel_rfl) (by kernel_rfl) (by kernel_rfl) ?_
  refine OwnRun.cons (by unfold LB; omega) own86 (D.okB_ok (by kernel_rfl)) (by kernel_rfl) (by kernel_rfl) (by kernel_rfl) (by kernel_rfl) (by kernel_rfl) (by kernel_rfl) (by kernel_rfl) ?_
  refine OwnRun.cons (by unfold LB; omega) (own109 KT) (treeD_ok KT) (by kernel_rfl) (by kernel_rfl) (by kernel_rfl) (by kernel_rfl) (by kernel_rfl) (by kernel_rfl) (by kernel_rfl) ?_
  refine OwnRun.cons (by unfold LB; omega) (own109 KT) (treeD_ok KT) (by kernel_rfl) (by kernel_rfl) (by kernel_rfl) (by kernel_rfl) (by kernel_rfl) (by kernel_rfl) (by kernel_rfl) ?_
  refine OwnRun.cons (by unfold LB; omega) own86 (D.okB_ok (by kernel_rfl)) (by kernel_rfl) (by kernel_rfl) (by kernel_rfl) (by kernel_rfl) (by kernel_rfl) (by kernel_rfl) (by kernel_rfl) ?_
  exact OwnRun.fin rfl (by kernel_rfl) (by kernel_rfl) (by kernel_rfl)

end Go.Sx
