/- Part TitD of a proof: helper lemmas; no conditions. -/
import Derived.Test.YtnnaehcmchndmaaGreatDoorLT
import Derived.Test.YtnnaehcmchndmaaGreatDoorK
import Derived.Test.YtnnaehcmchndmaaGreatDoorTitW
import Derived.Test.YtnnaehcmchndmaaGreatDoorProg
import Derived.KernelRfl
import Derived.OwnWalk
import Derived.Test.YtnnaehcmchndmaaGreatDoorLB
import Derived.WalkKit
import Derived.WalkSpells
import Derived.StillTactics
import Derived.Laws.Pointers
import Derived.Deep.RegionLaw
import Derived.Deep.AppendLies
import Derived.Deep.LoopGhost

set_option linter.unusedSimpArgs false
set_option linter.unusedVariables false

namespace Go.Sx
open Go Go.Proofs

abbrev dT : D := (.seq .str (.seq (.row 5 (.int .u8)) (.row 324 (.seq .str (.seq .bool (.seq .str (.seq (.int .u16) (.int .u8))))))))
abbrev glL : List (Nat × List CT) := [(4, [.any]), (5, [.any]), (2, tabC), (3, [.int .i64 (-9223372036854775808) 9223372036854775807])]

theorem see95 : SeeOK Tryz.prog 3 9 95 ((.row 5 (.int .u8))) :=
  SeeOK.of_code Tryz.func95 rfl Tryz.ntmps95 (by decide) rfl
    (SeeCode.row (by kernel_rfl) (fun x hx => by cases hx; decide) (by kernel_rfl) Tryz.func211 (by kernel_rfl) (by kernel_rfl) (all211 212 _ Tryz.func212 (by kernel_rfl) (by kernel_rfl) see212))

theorem mark95 : MarkOK Tryz.prog 3 9 95 ((.row 5 (.int .u8))) :=
  MarkOK.of_code Tryz.func95 rfl Tryz.ntmps95 (by decide) rfl
    (MarkCode.row (by kernel_rfl) (fun x hx => by cases hx; decide) (by kernel_rfl) (by kernel_rfl) Tryz.func211 (by kernel_rfl) (by kernel_rfl) (allm211 212 _ Tryz.func212 (by kernel_rfl) (by kernel_rfl) mark212))

theorem see296 : SeeOK Tryz.prog 3 9 296 ((.seq (.int .u16) (.int .u8))) :=
  SeeOK.of_code Tryz.func296 rfl Tryz.ntmps296 (by decide) rfl
    (SeeCode.seq rfl (SeeCode.fieldB see136 (by kernel_rfl) (fun x hx => by cases hx; decide) (by kernel_rfl) (by kernel_rfl))
      (SeeCode.fieldB see212 (by kernel_rfl) (fun x hx => by cases hx; decide) (by kernel_rfl) (by kernel_rfl)))

theorem mark296 : MarkOK Tryz.prog 3 9 296 ((.seq (.int .u16) (.int .u8))) :=
  MarkOK.of_code Tryz.func296 rfl Tryz.ntmps296 (by decide) rfl
    (MarkCode.seq (MarkCode.fieldB mark136 (by kernel_rfl) (fun x hx => by cases hx; decide) (by kernel_rfl) (by kernel_rfl))
      (MarkCode.fieldB mark212 (by kernel_rfl) (fun x hx => by cases hx; decide) (by kernel_rfl) (by kernel_rfl)))

theorem see223 : SeeOK Tryz.prog 3 9 223 ((.seq .str (.seq .bool (.seq .str (.seq (.int .u16) (.int .u8)))))) :=
  SeeOK.of_code Tryz.func223 rfl Tryz.ntmps223 (by decide) rfl
    (SeeCode.seq rfl (SeeCode.fieldB see121 (by kernel_rfl) (fun x hx => by cases hx; decide) (by kernel_rfl) (by kernel_rfl))
      (SeeCode.seq rfl (SeeCode.fieldB see295 (by kernel_rfl) (fun x hx => by cases hx; decide) (by kernel_rfl) (by kernel_rfl))
      (SeeCode.seq rfl (SeeCode.fieldB see121 (by kernel_rfl) (fun x hx => by cases hx; decide) (by kernel_rfl) (by kernel_rfl))
      (SeeCode.fieldB see296 (by kernel_rfl) (fun x hx => by cases hx; decide) (by kernel_rfl) (by kernel_rfl)))))

theorem mark223 : MarkOK Tryz.prog 3 9 223 ((.seq .str (.seq .bool (.seq .str (.seq (.int .u16) (.int .u8)))))) :=
  MarkOK.of_code Tryz.func223 rfl Tryz.ntmps223 (by decide) rfl
    (MarkCode.seq (MarkCode.fieldB mark121 (by kernel_rfl) (fun x hx => by cases hx; decide) (by kernel_rfl) (by kernel_rfl))
      (MarkCode.seq (MarkCode.fieldB mark295 (by kernel_rfl) (fun x hx => by cases hx; decide) (by kernel_rfl) (by kernel_rfl))
      (MarkCode.seq (MarkCode.fieldB mark121 (by kernel_rfl) (fun x hx => by cases hx; decide) (by kernel_rfl) (by kernel_rfl))
      (MarkCode.fieldB mark296 (by kernel_rfl) (fun x hx => by cases hx; decide) (by kernel_rfl) (by kernel_rfl)))))

theorem see113 : SeeOK Tryz.prog 3 9 113 ((.row 324 (.seq .str (.seq .bool (.seq .str (.seq (.int .u16) (.int .u8))))))) :=
  SeeOK.of_code Tryz.func113 rfl Tryz.ntmps113 (by decide) rfl
    (SeeCode.row (by kernel_rfl) (fun x hx => by cases hx; decide) (by kernel_rfl) Tryz.func222 (by kernel_rfl) (by kernel_rfl) (all222 223 _ Tryz.func223 (by kernel_rfl) (by kernel_rfl) see223))

theorem mark113 : MarkOK Tryz.prog 3 9 113 ((.row 324 (.seq .str (.seq .bool (.seq .str (.seq (.int .u16) (.int .u8))))))) :=
  MarkOK.of_code Tryz.func113 rfl Tryz.ntmps113 (by decide) rfl
    (MarkCode.row (by kernel_rfl) (fun x hx => by cases hx; decide) (by kernel_rfl) (by kernel_rfl) Tryz.func222 (by kernel_rfl) (by kernel_rfl) (allm222 223 _ Tryz.func223 (by kernel_rfl) (by kernel_rfl) mark223))

theorem see91 : SeeOK Tryz.prog 3 9 91 ((.seq .str (.seq (.row 5 (.int .u8)) (.row 324 (.seq .str (.seq .bool (.seq .str (.seq (.int .u16) (.int .u8))))))))) :=
  SeeOK.of_code Tryz.func91 rfl Tryz.ntmps91 (by decide) rfl
    (SeeCode.seq rfl (SeeCode.fieldB see121 (by kernel_rfl) (fun x hx => by cases hx; decide) (by kernel_rfl) (by kernel_rfl))
      (SeeCode.seq rfl (SeeCode.fieldB see95 (by kernel_rfl) (fun x hx => by cases hx; decide) (by kernel_rfl) (by kernel_rfl))
      (SeeCode.fieldB see113 (by kernel_rfl) (fun x hx => by cases hx; decide) (by kernel_rfl) (by kernel_rfl))))

theorem mark91 : MarkOK Tryz.prog 3 9 91 ((.seq .str (.seq (.row 5 (.int .u8)) (.row 324 (.seq .str (.seq .bool (.seq .str (.seq (.int .u16) (.int .u8))))))))) :=
  MarkOK.of_code Tryz.func91 rfl Tryz.ntmps91 (by decide) rfl
    (MarkCode.seq (MarkCode.fieldB mark121 (by kernel_rfl) (fun x hx => by cases hx; decide) (by kernel_rfl) (by kernel_rfl))
      (MarkCode.seq (MarkCode.fieldB mark95 (by kernel_rfl) (fun x hx => by cases hx; decide) (by kernel_rfl) (by kernel_rfl))
      (MarkCode.fieldB mark113 (by kernel_rfl) (fun x hx => by cases hx; decide) (by kernel_rfl) (by kernel_rfl))))

theorem see94 : SeeOK Tryz.prog 3 9 94 ((.row 5 (.int .u8))) :=
  SeeOK.of_code Tryz.func94 rfl Tryz.ntmps94 (by decide) rfl (SeeCode.handed (by kernel_rfl) (fun x hx => by cases hx; decide) Tryz.func95 (by kernel_rfl) (by kernel_rfl) see95)

theorem mark94 : MarkOK Tryz.prog 3 9 94 ((.row 5 (.int .u8))) :=
  MarkOK.of_code Tryz.func94 rfl Tryz.ntmps94 (by decide) rfl (MarkCode.handed (by kernel_rfl) (fun x hx => by cases hx; decide) Tryz.func95 (by kernel_rfl) (by kernel_rfl) mark95)

theorem see105 : SeeOK Tryz.prog 3 9 105 ((.strs 9)) :=
  SeeOK.of_code Tryz.func105 rfl Tryz.ntmps105 (by decide) rfl
    (SeeCode.strs (by kernel_rfl) (fun x hx => by cases hx; decide) (by kernel_rfl) Tryz.func217 (by kernel_rfl) (by kernel_rfl) (all217 121 _ Tryz.func121 (by kernel_rfl) (by kernel_rfl) see121))

theorem mark105 : MarkOK Tryz.prog 3 9 105 ((.strs 9)) :=
  MarkOK.of_code Tryz.func105 rfl Tryz.ntmps105 (by decide) rfl
    (MarkCode.strs (by kernel_rfl) (fun x hx => by cases hx; decide) (by kernel_rfl) (by kernel_rfl) Tryz.func217 (by kernel_rfl) (by kernel_rfl) (allm217 121 _ Tryz.func121 (by kernel_rfl) (by kernel_rfl) mark121))

theorem see104 : SeeOK Tryz.prog 3 9 104 ((.strs 9)) :=
  SeeOK.of_code Tryz.func104 rfl Tryz.ntmps104 (by decide) rfl (SeeCode.handed (by kernel_rfl) (fun x hx => by cases hx; decide) Tryz.func105 (by kernel_rfl) (by kernel_rfl) see105)

theorem mark104 : MarkOK Tryz.prog 3 9 104 ((.strs 9)) :=
  MarkOK.of_code Tryz.func104 rfl Tryz.ntmps104 (by decide) rfl (MarkCode.handed (by kernel_rfl) (fun x hx => by cases hx; decide) Tryz.func105 (by kernel_rfl) (by kernel_rfl) mark105)

theorem see112 : SeeOK Tryz.prog 3 9 112 ((.row 324 (.seq .str (.seq .bool (.seq .str (.seq (.int .u16) (.int .u8))))))) :=
  SeeOK.of_code Tryz.func112 rfl Tryz.ntmps112 (by decide) rfl (SeeCode.handed (by kernel_rfl) (fun x hx => by cases hx; decide) Tryz.func113 (by kernel_rfl) (by kernel_rfl) see113)

theorem mark112 : MarkOK Tryz.prog 3 9 112 ((.row 324 (.seq .str (.seq .bool (.seq .str (.seq (.int .u16) (.int .u8))))))) :=
  MarkOK.of_code Tryz.func112 rfl Tryz.ntmps112 (by decide) rfl (MarkCode.handed (by kernel_rfl) (fun x hx => by cases hx; decide) Tryz.func113 (by kernel_rfl) (by kernel_rfl) mark113)

theorem room94 : Room ((.row 5 (.int .u8))) [] [] := ⟨by decide, by decide, D.whole_fit _ (by kernel_rfl) _⟩

theorem clos94 : ∀ b o, ClosS Tryz.prog 3 9 ⟨94, b, o, ((.row 5 (.int .u8)))⟩ := fun b o => ⟨see94, mark94, (D.okB_ok (by kernel_rfl)), room94, by kernel_rfl⟩

theorem room104 : Room ((.strs 9)) [] [] := ⟨by decide, by decide, D.whole_fit _ (by kernel_rfl) _⟩

theorem clos104 : ∀ b o, ClosS Tryz.prog 3 9 ⟨104, b, o, ((.strs 9))⟩ := fun b o => ⟨see104, mark104, (D.okB_ok (by kernel_rfl)), room104, by kernel_rfl⟩

theorem room112 : Room ((.row 324 (.seq .str (.seq .bool (.seq .str (.seq (.int .u16) (.int .u8))))))) [] [] := ⟨by decide, by decide, D.whole_fit _ (by kernel_rfl) _⟩

theorem clos112 : ∀ b o, ClosS Tryz.prog 3 9 ⟨112, b, o, ((.row 324 (.seq .str (.seq .bool (.seq .str (.seq (.int .u16) (.int .u8)))))))⟩ := fun b o => ⟨see112, mark112, (D.okB_ok (by kernel_rfl)), room112, by kernel_rfl⟩

theorem okT : dT.ok Tryz.prog := (D.okB_ok (by kernel_rfl))

theorem roomT : Room dT [] [] := ⟨by decide, by decide, D.whole_fit _ (by kernel_rfl) _⟩

theorem rowsT : dT.rows = true := rfl

theorem kindT : kindB Tryz.prog 8 dT 141 = true := by kernel_rfl

end Go.Sx

namespace Go.Sx
open Go Go.Proofs

theorem copy208 : CopyRaw Tryz.prog 208 5 1 :=
  CopyRaw.of_codeB Tryz.func208 Tryz.ntmps208 rfl (by kernel_rfl) Tryz.underlying29 (by kernel_rfl) rfl

theorem own208 : OwnOK Tryz.prog 2000 208 false (.row 5 (.int .u8)) :=
  OwnOK.rowB copy208 (Nat.le_refl _) rfl (by kernel_rfl)

theorem copy209 : CopyRaw Tryz.prog 209 324 5 :=
  CopyRaw.of_codeB Tryz.func209 Tryz.ntmps209 rfl (by kernel_rfl) Tryz.underlying138 (by kernel_rfl) rfl

theorem own209 : OwnOK Tryz.prog 2000 209 false (.row 324 (.seq .str (.seq .bool (.seq .str (.seq (.int .u16) (.int .u8)))))) :=
  OwnOK.rowB copy209 (Nat.le_refl _) rfl (by kernel_rfl)

theorem own90 : OwnOK Tryz.prog 2000 90 true dT := by
  refine OwnOK.of_run (T := 141) (l := [(1, (.row 5 (.int .u8))), (2, (.row 324 (.seq .str (.seq .bool (.seq .str (.seq (.int .u16) (.int .u8)))))))]) Tryz.func90 Tryz.ntmps90 (by kernel_rfl) (z := (zeroAt Tryz.prog 141).getD default) (by kernel_rfl) (by kernel_rfl) rfl ?_ (coverB_P _ _ (by kernel_rfl)) (partsB_ok (by kernel_rfl))
  refine OwnRun.cons (by unfold LB; omega) own208 (D.okB_ok (by kernel_rfl)) (by kernel_rfl) (by kernel_rfl) (by kernel_rfl) (by kernel_rfl) (by kernel_rfl) (by kernel_rfl) (by kernel_rfl) ?_
  refine OwnRun.cons (by unfold LB; omega) own209 (D.okB_ok (by kernel_rfl)) (by kernel_rfl) (by kernel_rfl) (by kernel_rfl) (by kernel_rfl) (by kernel_rfl) (by kernel_rfl) (by kernel_rfl) ?_
  exact OwnRun.fin rfl (by kernel_rfl) (by kernel_rfl) (by kernel_rfl)

end Go.Sx
