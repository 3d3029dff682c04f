/- Part BitD of a proof: helper lemmas; no conditions. -/
import Derived.Test.YtnpjbhmolemciaaGreatDoorK
import Derived.Test.YtnpjbhmolemciaaGreatDoorBitW
import Derived.Test.YtnpjbhmolemciaaGreatDoorProg
import Derived.KernelRfl
import Derived.OwnWalk
import Derived.Test.YtnpjbhmolemciaaGreatDoorLB
import Derived.WalkKit
import Derived.WalkSpells
import Derived.StillTactics
import Derived.Laws.Pointers
import Derived.Deep.RegionLaw
import Derived.Deep.AppendLies
import Derived.Deep.LoopGhost

namespace Go.Sx
open Go Go.Proofs

abbrev dT : D := (.seq (.row 5 (.int .u8)) (.seq (.row 5 (.int .u8)) (.seq (.int .u64) (.seq (.int .i64) (.seq (.int .i64) (.seq (.row 3 (.int .i64)) (.seq (.row 5 (.int .u8)) (.seq (.int .u8) .str))))))))
abbrev glL : List (Nat × List CT) := []

theorem see13 : SeeOK Tryz.prog 3 9 13 ((.row 5 (.int .u8))) :=
  SeeOK.of_code Tryz.func13 rfl Tryz.ntmps13 (by decide) rfl
    (SeeCode.row (by kernel_rfl) (fun x hx => by cases hx; decide) (by kernel_rfl) Tryz.func66 (by kernel_rfl) (by kernel_rfl) (all66 61 _ Tryz.func61 (by kernel_rfl) (by kernel_rfl) see61))

theorem mark13 : MarkOK Tryz.prog 3 9 13 ((.row 5 (.int .u8))) :=
  MarkOK.of_code Tryz.func13 rfl Tryz.ntmps13 (by decide) rfl
    (MarkCode.row (by kernel_rfl) (fun x hx => by cases hx; decide) (by kernel_rfl) (by kernel_rfl) Tryz.func66 (by kernel_rfl) (by kernel_rfl) (allm66 61 _ Tryz.func61 (by kernel_rfl) (by kernel_rfl) mark61))

theorem see28 : SeeOK Tryz.prog 3 9 28 ((.row 3 (.int .i64))) :=
  SeeOK.of_code Tryz.func28 rfl Tryz.ntmps28 (by decide) rfl
    (SeeCode.row (by kernel_rfl) (fun x hx => by cases hx; decide) (by kernel_rfl) Tryz.func74 (by kernel_rfl) (by kernel_rfl) (all74 60 _ Tryz.func60 (by kernel_rfl) (by kernel_rfl) see60))

theorem mark28 : MarkOK Tryz.prog 3 9 28 ((.row 3 (.int .i64))) :=
  MarkOK.of_code Tryz.func28 rfl Tryz.ntmps28 (by decide) rfl
    (MarkCode.row (by kernel_rfl) (fun x hx => by cases hx; decide) (by kernel_rfl) (by kernel_rfl) Tryz.func74 (by kernel_rfl) (by kernel_rfl) (allm74 60 _ Tryz.func60 (by kernel_rfl) (by kernel_rfl) mark60))

theorem see7 : SeeOK Tryz.prog 3 9 7 ((.seq (.row 5 (.int .u8)) (.seq (.row 5 (.int .u8)) (.seq (.int .u64) (.seq (.int .i64) (.seq (.int .i64) (.seq (.row 3 (.int .i64)) (.seq (.row 5 (.int .u8)) (.seq (.int .u8) .str))))))))) :=
  SeeOK.of_code Tryz.func7 rfl Tryz.ntmps7 (by decide) rfl
    (SeeCode.seq rfl (SeeCode.fieldB see13 (by kernel_rfl) (fun x hx => by cases hx; decide) (by kernel_rfl) (by kernel_rfl))
      (SeeCode.seq rfl (SeeCode.fieldB see13 (by kernel_rfl) (fun x hx => by cases hx; decide) (by kernel_rfl) (by kernel_rfl))
      (SeeCode.seq rfl (SeeCode.fieldB see59 (by kernel_rfl) (fun x hx => by cases hx; decide) (by kernel_rfl) (by kernel_rfl))
      (SeeCode.seq rfl (SeeCode.fieldB see60 (by kernel_rfl) (fun x hx => by cases hx; decide) (by kernel_rfl) (by kernel_rfl))
      (SeeCode.seq rfl (SeeCode.fieldB see60 (by kernel_rfl) (fun x hx => by cases hx; decide) (by kernel_rfl) (by kernel_rfl))
      (SeeCode.seq rfl (SeeCode.fieldB see28 (by kernel_rfl) (fun x hx => by cases hx; decide) (by kernel_rfl) (by kernel_rfl))
      (SeeCode.seq rfl (SeeCode.fieldB see13 (by kernel_rfl) (fun x hx => by cases hx; decide) (by kernel_rfl) (by kernel_rfl))
      (SeeCode.seq rfl (SeeCode.fieldB see61 (by kernel_rfl) (fun x hx => by cases hx; decide) (by kernel_rfl) (by kernel_rfl))
      (SeeCode.fieldB see62 (by kernel_rfl) (fun x hx => by cases hx; decide) (by kernel_rfl) (by kernel_rfl))))))))))

theorem mark7 : MarkOK Tryz.prog 3 9 7 ((.seq (.row 5 (.int .u8)) (.seq (.row 5 (.int .u8)) (.seq (.int .u64) (.seq (.int .i64) (.seq (.int .i64) (.seq (.row 3 (.int .i64)) (.seq (.row 5 (.int .u8)) (.seq (.int .u8) .str))))))))) :=
  MarkOK.of_code Tryz.func7 rfl Tryz.ntmps7 (by decide) rfl
    (MarkCode.seq (MarkCode.fieldB mark13 (by kernel_rfl) (fun x hx => by cases hx; decide) (by kernel_rfl) (by kernel_rfl))
      (MarkCode.seq (MarkCode.fieldB mark13 (by kernel_rfl) (fun x hx => by cases hx; decide) (by kernel_rfl) (by kernel_rfl))
      (MarkCode.seq (MarkCode.fieldB mark59 (by kernel_rfl) (fun x hx => by cases hx; decide) (by kernel_rfl) (by kernel_rfl))
      (MarkCode.seq (MarkCode.fieldB mark60 (by kernel_rfl) (fun x hx => by cases hx; decide) (by kernel_rfl) (by kernel_rfl))
      (MarkCode.seq (MarkCode.fieldB mark60 (by kernel_rfl) (fun x hx => by cases hx; decide) (by kernel_rfl) (by kernel_rfl))
      (MarkCode.seq (MarkCode.fieldB mark28 (by kernel_rfl) (fun x hx => by cases hx; decide) (by kernel_rfl) (by kernel_rfl))
      (MarkCode.seq (MarkCode.fieldB mark13 (by kernel_rfl) (fun x hx => by cases hx; decide) (by kernel_rfl) (by kernel_rfl))
      (MarkCode.seq (MarkCode.fieldB mark61 (by kernel_rfl) (fun x hx => by cases hx; decide) (by kernel_rfl) (by kernel_rfl))
      (MarkCode.fieldB mark62 (by kernel_rfl) (fun x hx => by cases hx; decide) (by kernel_rfl) (by kernel_rfl))))))))))

theorem see12 : SeeOK Tryz.prog 3 9 12 ((.row 5 (.int .u8))) :=
  SeeOK.of_code Tryz.func12 rfl Tryz.ntmps12 (by decide) rfl (SeeCode.handed (by kernel_rfl) (fun x hx => by cases hx; decide) Tryz.func13 (by kernel_rfl) (by kernel_rfl) see13)

theorem mark12 : MarkOK Tryz.prog 3 9 12 ((.row 5 (.int .u8))) :=
  MarkOK.of_code Tryz.func12 rfl Tryz.ntmps12 (by decide) rfl (MarkCode.handed (by kernel_rfl) (fun x hx => by cases hx; decide) Tryz.func13 (by kernel_rfl) (by kernel_rfl) mark13)

theorem see16 : SeeOK Tryz.prog 3 9 16 ((.row 5 (.int .u8))) :=
  SeeOK.of_code Tryz.func16 rfl Tryz.ntmps16 (by decide) rfl (SeeCode.handed (by kernel_rfl) (fun x hx => by cases hx; decide) Tryz.func13 (by kernel_rfl) (by kernel_rfl) see13)

theorem mark16 : MarkOK Tryz.prog 3 9 16 ((.row 5 (.int .u8))) :=
  MarkOK.of_code Tryz.func16 rfl Tryz.ntmps16 (by decide) rfl (MarkCode.handed (by kernel_rfl) (fun x hx => by cases hx; decide) Tryz.func13 (by kernel_rfl) (by kernel_rfl) mark13)

theorem see19 : SeeOK Tryz.prog 3 9 19 ((.row 5 (.int .u8))) :=
  SeeOK.of_code Tryz.func19 rfl Tryz.ntmps19 (by decide) rfl (SeeCode.handed (by kernel_rfl) (fun x hx => by cases hx; decide) Tryz.func13 (by kernel_rfl) (by kernel_rfl) see13)

theorem mark19 : MarkOK Tryz.prog 3 9 19 ((.row 5 (.int .u8))) :=
  MarkOK.of_code Tryz.func19 rfl Tryz.ntmps19 (by decide) rfl (MarkCode.handed (by kernel_rfl) (fun x hx => by cases hx; decide) Tryz.func13 (by kernel_rfl) (by kernel_rfl) mark13)

theorem see24 : SeeOK Tryz.prog 3 9 24 ((.row 5 (.int .u8))) :=
  SeeOK.of_code Tryz.func24 rfl Tryz.ntmps24 (by decide) rfl (SeeCode.handed (by kernel_rfl) (fun x hx => by cases hx; decide) Tryz.func13 (by kernel_rfl) (by kernel_rfl) see13)

theorem mark24 : MarkOK Tryz.prog 3 9 24 ((.row 5 (.int .u8))) :=
  MarkOK.of_code Tryz.func24 rfl Tryz.ntmps24 (by decide) rfl (MarkCode.handed (by kernel_rfl) (fun x hx => by cases hx; decide) Tryz.func13 (by kernel_rfl) (by kernel_rfl) mark13)

theorem see27 : SeeOK Tryz.prog 3 9 27 ((.row 3 (.int .i64))) :=
  SeeOK.of_code Tryz.func27 rfl Tryz.ntmps27 (by decide) rfl (SeeCode.handed (by kernel_rfl) (fun x hx => by cases hx; decide) Tryz.func28 (by kernel_rfl) (by kernel_rfl) see28)

theorem mark27 : MarkOK Tryz.prog 3 9 27 ((.row 3 (.int .i64))) :=
  MarkOK.of_code Tryz.func27 rfl Tryz.ntmps27 (by decide) rfl (MarkCode.handed (by kernel_rfl) (fun x hx => by cases hx; decide) Tryz.func28 (by kernel_rfl) (by kernel_rfl) mark28)

theorem see35 : SeeOK Tryz.prog 3 9 35 ((.row 5 (.int .u8))) :=
  SeeOK.of_code Tryz.func35 rfl Tryz.ntmps35 (by decide) rfl (SeeCode.handed (by kernel_rfl) (fun x hx => by cases hx; decide) Tryz.func13 (by kernel_rfl) (by kernel_rfl) see13)

theorem mark35 : MarkOK Tryz.prog 3 9 35 ((.row 5 (.int .u8))) :=
  MarkOK.of_code Tryz.func35 rfl Tryz.ntmps35 (by decide) rfl (MarkCode.handed (by kernel_rfl) (fun x hx => by cases hx; decide) Tryz.func13 (by kernel_rfl) (by kernel_rfl) mark13)

theorem room12 : Room ((.row 5 (.int .u8))) [] [] := ⟨by decide, by decide⟩

theorem clos12 : ∀ b o, ClosS Tryz.prog 3 9 ⟨12, b, o, ((.row 5 (.int .u8)))⟩ := fun b o => ⟨see12, mark12, D.okB_ok (by kernel_rfl), room12, by kernel_rfl⟩

theorem room16 : Room ((.row 5 (.int .u8))) [] [] := ⟨by decide, by decide⟩

theorem clos16 : ∀ b o, ClosS Tryz.prog 3 9 ⟨16, b, o, ((.row 5 (.int .u8)))⟩ := fun b o => ⟨see16, mark16, D.okB_ok (by kernel_rfl), room16, by kernel_rfl⟩

theorem room19 : Room ((.row 5 (.int .u8))) [] [] := ⟨by decide, by decide⟩

theorem clos19 : ∀ b o, ClosS Tryz.prog 3 9 ⟨19, b, o, ((.row 5 (.int .u8)))⟩ := fun b o => ⟨see19, mark19, D.okB_ok (by kernel_rfl), room19, by kernel_rfl⟩

theorem room24 : Room ((.row 5 (.int .u8))) [] [] := ⟨by decide, by decide⟩

theorem clos24 : ∀ b o, ClosS Tryz.prog 3 9 ⟨24, b, o, ((.row 5 (.int .u8)))⟩ := fun b o => ⟨see24, mark24, D.okB_ok (by kernel_rfl), room24, by kernel_rfl⟩

theorem room27 : Room ((.row 3 (.int .i64))) [] [] := ⟨by decide, by decide⟩

theorem clos27 : ∀ b o, ClosS Tryz.prog 3 9 ⟨27, b, o, ((.row 3 (.int .i64)))⟩ := fun b o => ⟨see27, mark27, D.okB_ok (by kernel_rfl), room27, by kernel_rfl⟩

theorem room35 : Room ((.row 5 (.int .u8))) [] [] := ⟨by decide, by decide⟩

theorem clos35 : ∀ b o, ClosS Tryz.prog 3 9 ⟨35, b, o, ((.row 5 (.int .u8)))⟩ := fun b o => ⟨see35, mark35, D.okB_ok (by kernel_rfl), room35, by kernel_rfl⟩

theorem okT : dT.ok Tryz.prog := D.okB_ok (by kernel_rfl)

theorem roomT : Room dT [] [] := ⟨by decide, by decide⟩

end Go.Sx

namespace Go.Sx
open Go Go.Proofs

theorem copy57 : CopyRaw Tryz.prog 57 5 1 :=
  CopyRaw.of_codeB Tryz.func57 Tryz.ntmps57 rfl (by kernel_rfl) Tryz.underlying22 (by kernel_rfl) rfl

theorem own57 : OwnOK Tryz.prog 2000 57 false (.row 5 (.int .u8)) :=
  OwnOK.rowB copy57 (Nat.le_refl _) rfl (by kernel_rfl)

theorem copy58 : CopyRaw Tryz.prog 58 3 1 :=
  CopyRaw.of_codeB Tryz.func58 Tryz.ntmps58 rfl (by kernel_rfl) Tryz.underlying24 (by kernel_rfl) rfl

theorem own58 : OwnOK Tryz.prog 2000 58 false (.row 3 (.int .i64)) :=
  OwnOK.rowB copy58 (Nat.le_refl _) rfl (by kernel_rfl)

theorem own6 : OwnOK Tryz.prog 2000 6 true dT := by
  refine OwnOK.of_run (T := 26) (l := [(0, (.row 5 (.int .u8))), (1, (.row 5 (.int .u8))), (5, (.row 3 (.int .i64))), (6, (.row 5 (.int .u8)))]) Tryz.func6 Tryz.ntmps6 (by kernel_rfl) (z := (zeroAt Tryz.prog 26).getD default) (by kernel_rfl) (by kernel_rfl) rfl ?_ (by kernel_rfl) (partsB_ok (by kernel_rfl))
  refine OwnRun.cons (by unfold LB; omega) own57 (D.okB_ok (by kernel_rfl)) (by kernel_rfl) (by kernel_rfl) (by kernel_rfl) (by kernel_rfl) (by kernel_rfl) (by kernel_rfl) (by kernel_rfl) ?_
  refine OwnRun.cons (by unfold LB; omega) own57 (D.okB_ok (by kernel_rfl)) (by kernel_rfl) (by kernel_rfl) (by kernel_rfl) (by kernel_rfl) (by kernel_rfl) (by kernel_rfl) (by kernel_rfl) ?_
  refine OwnRun.cons (by unfold LB; omega) own58 (D.okB_ok (by kernel_rfl)) (by kernel_rfl) (by kernel_rfl) (by kernel_rfl) (by kernel_rfl) (by kernel_rfl) (by kernel_rfl) (by kernel_rfl) ?_
  refine OwnRun.cons (by unfold LB; omega) own57 (D.okB_ok (by kernel_rfl)) (by kernel_rfl) (by kernel_rfl) (by kernel_rfl) (by kernel_rfl) (by kernel_rfl) (by kernel_rfl) (by kernel_rfl) ?_
  exact OwnRun.fin rfl (by kernel_rfl) (by kernel_rfl) (by kernel_rfl)

end Go.Sx
