/- Part UniD of a proof: helper lemmas; no conditions. -/
import Derived.Test.YtnpjbhmolemciaaGreatDoorLT
import Derived.Test.YtnpjbhmolemciaaGreatDoorK
import Derived.Test.YtnpjbhmolemciaaGreatDoorUniW
import Derived.Test.YtnpjbhmolemciaaGreatDoorProg
import Derived.KernelRfl
import Derived.OwnWalk
import Derived.Test.YtnpjbhmolemciaaGreatDoorLB
import Derived.WalkKit
import Derived.WalkSpells
import Derived.StillTactics
import Derived.Laws.Pointers
import Derived.Deep.RegionLaw
import Derived.Deep.AppendLies
import Derived.Deep.LoopGhost

set_option linter.unusedSimpArgs false
set_option linter.unusedVariables false

namespace Go.Sx
open Go Go.Proofs

abbrev dT : D := (.seq (.seq (.int .u8) (.seq .bool (.seq (.int .u8) (.seq .bool (.seq (.int .u8) (.seq (.int .u8) (.row 5 (.int .u8)))))))) (.seq (.row 5 (.int .u8)) (.seq (.seq (.int .u8) (.seq .bool (.seq (.int .u8) (.seq .bool (.seq (.int .u8) (.seq (.int .u8) (.row 5 (.int .u8)))))))) (.seq (.seq (.int .u8) (.seq .bool (.seq (.int .u8) (.seq .bool (.seq (.int .u8) (.seq (.int .u8) (.row 5 (.int .u8)))))))) (.seq (.int .u8) (.seq (.int .i64) (.seq (.int .u8) (.int .u8))))))))
abbrev glL : List (Nat × List CT) := [(0, tabC)]

theorem see13 : SeeOK Tryz.prog 3 9 13 ((.row 5 (.int .u8))) :=
  SeeOK.of_code Tryz.func13 rfl Tryz.ntmps13 (by decide) rfl
    (SeeCode.row (by kernel_rfl) (fun x hx => by cases hx; decide) (by kernel_rfl) Tryz.func66 (by kernel_rfl) (by kernel_rfl) (all66 61 _ Tryz.func61 (by kernel_rfl) (by kernel_rfl) see61))

theorem mark13 : MarkOK Tryz.prog 3 9 13 ((.row 5 (.int .u8))) :=
  MarkOK.of_code Tryz.func13 rfl Tryz.ntmps13 (by decide) rfl
    (MarkCode.row (by kernel_rfl) (fun x hx => by cases hx; decide) (by kernel_rfl) (by kernel_rfl) Tryz.func66 (by kernel_rfl) (by kernel_rfl) (allm66 61 _ Tryz.func61 (by kernel_rfl) (by kernel_rfl) mark61))

theorem see48 : SeeOK Tryz.prog 3 9 48 ((.seq (.int .u8) (.seq .bool (.seq (.int .u8) (.seq .bool (.seq (.int .u8) (.seq (.int .u8) (.row 5 (.int .u8))))))))) :=
  SeeOK.of_code Tryz.func48 rfl Tryz.ntmps48 (by decide) rfl
    (SeeCode.seq rfl (SeeCode.fieldB see61 (by kernel_rfl) (fun x hx => by cases hx; decide) (by kernel_rfl) (by kernel_rfl))
      (SeeCode.seq rfl (SeeCode.fieldB see87 (by kernel_rfl) (fun x hx => by cases hx; decide) (by kernel_rfl) (by kernel_rfl))
      (SeeCode.seq rfl (SeeCode.fieldB see61 (by kernel_rfl) (fun x hx => by cases hx; decide) (by kernel_rfl) (by kernel_rfl))
      (SeeCode.seq rfl (SeeCode.fieldB see87 (by kernel_rfl) (fun x hx => by cases hx; decide) (by kernel_rfl) (by kernel_rfl))
      (SeeCode.seq rfl (SeeCode.fieldB see88 (by kernel_rfl) (fun x hx => by cases hx; decide) (by kernel_rfl) (by kernel_rfl))
      (SeeCode.seq rfl (SeeCode.fieldB see61 (by kernel_rfl) (fun x hx => by cases hx; decide) (by kernel_rfl) (by kernel_rfl))
      (SeeCode.fieldB see13 (by kernel_rfl) (fun x hx => by cases hx; decide) (by kernel_rfl) (by kernel_rfl))))))))

theorem mark48 : MarkOK Tryz.prog 3 9 48 ((.seq (.int .u8) (.seq .bool (.seq (.int .u8) (.seq .bool (.seq (.int .u8) (.seq (.int .u8) (.row 5 (.int .u8))))))))) :=
  MarkOK.of_code Tryz.func48 rfl Tryz.ntmps48 (by decide) rfl
    (MarkCode.seq (MarkCode.fieldB mark61 (by kernel_rfl) (fun x hx => by cases hx; decide) (by kernel_rfl) (by kernel_rfl))
      (MarkCode.seq (MarkCode.fieldB mark87 (by kernel_rfl) (fun x hx => by cases hx; decide) (by kernel_rfl) (by kernel_rfl))
      (MarkCode.seq (MarkCode.fieldB mark61 (by kernel_rfl) (fun x hx => by cases hx; decide) (by kernel_rfl) (by kernel_rfl))
      (MarkCode.seq (MarkCode.fieldB mark87 (by kernel_rfl) (fun x hx => by cases hx; decide) (by kernel_rfl) (by kernel_rfl))
      (MarkCode.seq (MarkCode.fieldB mark88 (by kernel_rfl) (fun x hx => by cases hx; decide) (by kernel_rfl) (by kernel_rfl))
      (MarkCode.seq (MarkCode.fieldB mark61 (by kernel_rfl) (fun x hx => by cases hx; decide) (by kernel_rfl) (by kernel_rfl))
      (MarkCode.fieldB mark13 (by kernel_rfl) (fun x hx => by cases hx; decide) (by kernel_rfl) (by kernel_rfl))))))))

theorem see39 : SeeOK Tryz.prog 3 9 39 ((.seq (.seq (.int .u8) (.seq .bool (.seq (.int .u8) (.seq .bool (.seq (.int .u8) (.seq (.int .u8) (.row 5 (.int .u8)))))))) (.seq (.row 5 (.int .u8)) (.seq (.seq (.int .u8) (.seq .bool (.seq (.int .u8) (.seq .bool (.seq (.int .u8) (.seq (.int .u8) (.row 5 (.int .u8)))))))) (.seq (.seq (.int .u8) (.seq .bool (.seq (.int .u8) (.seq .bool (.seq (.int .u8) (.seq (.int .u8) (.row 5 (.int .u8)))))))) (.seq (.int .u8) (.seq (.int .i64) (.seq (.int .u8) (.int .u8))))))))) :=
  SeeOK.of_code Tryz.func39 rfl Tryz.ntmps39 (by decide) rfl
    (SeeCode.seq rfl (SeeCode.fieldB see48 (by kernel_rfl) (fun x hx => by cases hx; decide) (by kernel_rfl) (by kernel_rfl))
      (SeeCode.seq rfl (SeeCode.fieldB see13 (by kernel_rfl) (fun x hx => by cases hx; decide) (by kernel_rfl) (by kernel_rfl))
      (SeeCode.seq rfl (SeeCode.fieldB see48 (by kernel_rfl) (fun x hx => by cases hx; decide) (by kernel_rfl) (by kernel_rfl))
      (SeeCode.seq rfl (SeeCode.fieldB see48 (by kernel_rfl) (fun x hx => by cases hx; decide) (by kernel_rfl) (by kernel_rfl))
      (SeeCode.seq rfl (SeeCode.fieldB see61 (by kernel_rfl) (fun x hx => by cases hx; decide) (by kernel_rfl) (by kernel_rfl))
      (SeeCode.seq rfl (SeeCode.fieldB see60 (by kernel_rfl) (fun x hx => by cases hx; decide) (by kernel_rfl) (by kernel_rfl))
      (SeeCode.seq rfl (SeeCode.fieldB see61 (by kernel_rfl) (fun x hx => by cases hx; decide) (by kernel_rfl) (by kernel_rfl))
      (SeeCode.fieldB see61 (by kernel_rfl) (fun x hx => by cases hx; decide) (by kernel_rfl) (by kernel_rfl)))))))))

theorem mark39 : MarkOK Tryz.prog 3 9 39 ((.seq (.seq (.int .u8) (.seq .bool (.seq (.int .u8) (.seq .bool (.seq (.int .u8) (.seq (.int .u8) (.row 5 (.int .u8)))))))) (.seq (.row 5 (.int .u8)) (.seq (.seq (.int .u8) (.seq .bool (.seq (.int .u8) (.seq .bool (.seq (.int .u8) (.seq (.int .u8) (.row 5 (.int .u8)))))))) (.seq (.seq (.int .u8) (.seq .bool (.seq (.int .u8) (.seq .bool (.seq (.int .u8) (.seq (.int .u8) (.row 5 (.int .u8)))))))) (.seq (.int .u8) (.seq (.int .i64) (.seq (.int .u8) (.int .u8))))))))) :=
  MarkOK.of_code Tryz.func39 rfl Tryz.ntmps39 (by decide) rfl
    (MarkCode.seq (MarkCode.fieldB mark48 (by kernel_rfl) (fun x hx => by cases hx; decide) (by kernel_rfl) (by kernel_rfl))
      (MarkCode.seq (MarkCode.fieldB mark13 (by kernel_rfl) (fun x hx => by cases hx; decide) (by kernel_rfl) (by kernel_rfl))
      (MarkCode.seq (MarkCode.fieldB mark48 (by kernel_rfl) (fun x hx => by cases hx; decide) (by kernel_rfl) (by kernel_rfl))
      (MarkCode.seq (MarkCode.fieldB mark48 (by kernel_rfl) (fun x hx => by cases hx; decide) (by kernel_rfl) (by kernel_rfl))
      (MarkCode.seq (MarkCode.fieldB mark61 (by kernel_rfl) (fun x hx => by cases hx; decide) (by kernel_rfl) (by kernel_rfl))
      (MarkCode.seq (MarkCode.fieldB mark60 (by kernel_rfl) (fun x hx => by cases hx; decide) (by kernel_rfl) (by kernel_rfl))
      (MarkCode.seq (MarkCode.fieldB mark61 (by kernel_rfl) (fun x hx => by cases hx; decide) (by kernel_rfl) (by kernel_rfl))
      (MarkCode.fieldB mark61 (by kernel_rfl) (fun x hx => by cases hx; decide) (by kernel_rfl) (by kernel_rfl)))))))))

theorem see44 : SeeOK Tryz.prog 3 9 44 ((.row 5 (.int .u8))) :=
  SeeOK.of_code Tryz.func44 rfl Tryz.ntmps44 (by decide) rfl (SeeCode.handed (by kernel_rfl) (fun x hx => by cases hx; decide) Tryz.func13 (by kernel_rfl) (by kernel_rfl) see13)

theorem mark44 : MarkOK Tryz.prog 3 9 44 ((.row 5 (.int .u8))) :=
  MarkOK.of_code Tryz.func44 rfl Tryz.ntmps44 (by decide) rfl (MarkCode.handed (by kernel_rfl) (fun x hx => by cases hx; decide) Tryz.func13 (by kernel_rfl) (by kernel_rfl) mark13)

theorem see47 : SeeOK Tryz.prog 3 9 47 ((.seq (.int .u8) (.seq .bool (.seq (.int .u8) (.seq .bool (.seq (.int .u8) (.seq (.int .u8) (.row 5 (.int .u8))))))))) :=
  SeeOK.of_code Tryz.func47 rfl Tryz.ntmps47 (by decide) rfl (SeeCode.handed (by kernel_rfl) (fun x hx => by cases hx; decide) Tryz.func48 (by kernel_rfl) (by kernel_rfl) see48)

theorem mark47 : MarkOK Tryz.prog 3 9 47 ((.seq (.int .u8) (.seq .bool (.seq (.int .u8) (.seq .bool (.seq (.int .u8) (.seq (.int .u8) (.row 5 (.int .u8))))))))) :=
  MarkOK.of_code Tryz.func47 rfl Tryz.ntmps47 (by decide) rfl (MarkCode.handed (by kernel_rfl) (fun x hx => by cases hx; decide) Tryz.func48 (by kernel_rfl) (by kernel_rfl) mark48)

theorem room44 : Room ((.row 5 (.int .u8))) [] [] := ⟨by decide, by decide⟩

theorem clos44 : ∀ b o, ClosS Tryz.prog 3 9 ⟨44, b, o, ((.row 5 (.int .u8)))⟩ := fun b o => ⟨see44, mark44, D.okB_ok (by kernel_rfl), room44, by kernel_rfl⟩

theorem room47 : Room ((.seq (.int .u8) (.seq .bool (.seq (.int .u8) (.seq .bool (.seq (.int .u8) (.seq (.int .u8) (.row 5 (.int .u8))))))))) [] [] := ⟨by decide, by decide⟩

theorem clos47 : ∀ b o, ClosS Tryz.prog 3 9 ⟨47, b, o, ((.seq (.int .u8) (.seq .bool (.seq (.int .u8) (.seq .bool (.seq (.int .u8) (.seq (.int .u8) (.row 5 (.int .u8)))))))))⟩ := fun b o => ⟨see47, mark47, D.okB_ok (by kernel_rfl), room47, by kernel_rfl⟩

theorem okT : dT.ok Tryz.prog := D.okB_ok (by kernel_rfl)

theorem roomT : Room dT [] [] := ⟨by decide, by decide⟩

end Go.Sx

namespace Go.Sx
open Go Go.Proofs

theorem copy57 : CopyRaw Tryz.prog 57 5 1 :=
  CopyRaw.of_codeB Tryz.func57 Tryz.ntmps57 rfl (by kernel_rfl) Tryz.underlying22 (by kernel_rfl) rfl

theorem own57 : OwnOK Tryz.prog 2000 57 false (.row 5 (.int .u8)) :=
  OwnOK.rowB copy57 (Nat.le_refl _) rfl (by kernel_rfl)

theorem own82 : OwnOK Tryz.prog 2000 82 true (.seq (.int .u8) (.seq .bool (.seq (.int .u8) (.seq .bool (.seq (.int .u8) (.seq (.int .u8) (.row 5 (.int .u8)))))))) := by
  refine OwnOK.of_run (T := 59) (l := [(6, (.row 5 (.int .u8)))]) Tryz.func82 Tryz.ntmps82 (by kernel_rfl) (z := (zeroAt Tryz.prog 59).getD default) (by kernel_rfl) (by kernel_rfl) rfl ?_ (by kernel_rfl) (partsB_ok (by kernel_rfl))
  refine OwnRun.cons (by unfold LB; omega) own57 (D.okB_ok (by kernel_rfl)) (by kernel_rfl) (by kernel_rfl) (by kernel_rfl) (by kernel_rfl) (by kernel_rfl) (by kernel_rfl) (by kernel_rfl) ?_
  exact OwnRun.fin rfl (by kernel_rfl) (by kernel_rfl) (by kernel_rfl)

theorem own38 : OwnOK Tryz.prog 2000 38 true dT := by
  refine OwnOK.of_run (T := 61) (l := [(0, (.seq (.int .u8) (.seq .bool (.seq (.int .u8) (.seq .bool (.seq (.int .u8) (.seq (.int .u8) (.row 5 (.int .u8))))))))), (7, (.row 5 (.int .u8))), (8, (.seq (.int .u8) (.seq .bool (.seq (.int .u8) (.seq .bool (.seq (.int .u8) (.seq (.int .u8) (.row 5 (.int .u8))))))))), (15, (.seq (.int .u8) (.seq .bool (.seq (.int .u8) (.seq .bool (.seq (.int .u8) (.seq (.int .u8) (.row 5 (.int .u8)))))))))]) Tryz.func38 Tryz.ntmps38 (by kernel_rfl) (z := (zeroAt Tryz.prog 61).getD default) (by kernel_rfl) (by kernel_rfl) rfl ?_ (by kernel_rfl) (partsB_ok (by kernel_rfl))
  refine OwnRun.cons (by unfold LB; omega) own82 (D.okB_ok (by kernel_rfl)) (by kernel_rfl) (by kernel_rfl) (by kernel_rfl) (by kernel_rfl) (by kernel_rfl) (by kernel_rfl) (by kernel_rfl) ?_
  refine OwnRun.cons (by unfold LB; omega) own57 (D.okB_ok (by kernel_rfl)) (by kernel_rfl) (by kernel_rfl) (by kernel_rfl) (by kernel_rfl) (by kernel_rfl) (by kernel_rfl) (by kernel_rfl) ?_
  refine OwnRun.cons (by unfold LB; omega) own82 (D.okB_ok (by kernel_rfl)) (by kernel_rfl) (by kernel_rfl) (by kernel_rfl) (by kernel_rfl) (by kernel_rfl) (by kernel_rfl) (by kernel_rfl) ?_
  refine OwnRun.cons (by unfold LB; omega) own82 (D.okB_ok (by kernel_rfl)) (by kernel_rfl) (by kernel_rfl) (by kernel_rfl) (by kernel_rfl) (by kernel_rfl) (by kernel_rfl) (by kernel_rfl) ?_
  exact OwnRun.fin rfl (by kernel_rfl) (by kernel_rfl) (by kernel_rfl)

end Go.Sx
