/- Part ShaD of a proof: helper lemmas; no conditions. -/
import Derived.Test.YtiecagflhhmfnaaDoorK
import Derived.Test.YtiecagflhhmfnaaDoorShaW
import Derived.Test.YtiecagflhhmfnaaDoorProg
import Derived.KernelRfl
import Derived.OwnWalk
import Derived.Test.YtiecagflhhmfnaaDoorLB
import Derived.WalkKit
import Derived.WalkSpells
import Derived.StillTactics
import Derived.Laws.Pointers
import Derived.Deep.RegionLaw
import Derived.Deep.AppendLies
import Derived.Deep.LoopGhost

namespace Go.Sx
open Go Go.Proofs

abbrev dT : D := (.seq (.row 221 (.seq (.int .u16) (.int .i64))) (.seq (.row 223 (.int .u8)) (.seq (.int .u8) (.seq (.row 113 (.seq (.int .u16) (.seq (.int .u16) (.int .u8)))) (.row 4 .bool)))))
abbrev glL : List (Nat × List CT) := []

theorem see198 : SeeOK Tryd.prog 3 9 198 ((.seq (.int .u16) (.int .i64))) :=
  SeeOK.of_code Tryd.func198 rfl Tryd.ntmps198 (by decide) rfl
    (SeeCode.seq rfl (SeeCode.fieldB see164 (by kernel_rfl) (fun x hx => by cases hx; decide) (by kernel_rfl) (by kernel_rfl))
      (SeeCode.fieldB see119 (by kernel_rfl) (fun x hx => by cases hx; decide) (by kernel_rfl) (by kernel_rfl)))

theorem mark198 : MarkOK Tryd.prog 3 9 198 ((.seq (.int .u16) (.int .i64))) :=
  MarkOK.of_code Tryd.func198 rfl Tryd.ntmps198 (by decide) rfl
    (MarkCode.seq (MarkCode.fieldB mark164 (by kernel_rfl) (fun x hx => by cases hx; decide) (by kernel_rfl) (by kernel_rfl))
      (MarkCode.fieldB mark119 (by kernel_rfl) (fun x hx => by cases hx; decide) (by kernel_rfl) (by kernel_rfl)))

theorem see145 : SeeOK Tryd.prog 3 9 145 ((.row 221 (.seq (.int .u16) (.int .i64)))) :=
  SeeOK.of_code Tryd.func145 rfl Tryd.ntmps145 (by decide) rfl
    (SeeCode.row (by kernel_rfl) (fun x hx => by cases hx; decide) (by kernel_rfl) Tryd.func197 (by kernel_rfl) (by kernel_rfl) (all197 198 _ Tryd.func198 (by kernel_rfl) (by kernel_rfl) see198))

theorem mark145 : MarkOK Tryd.prog 3 9 145 ((.row 221 (.seq (.int .u16) (.int .i64)))) :=
  MarkOK.of_code Tryd.func145 rfl Tryd.ntmps145 (by decide) rfl
    (MarkCode.row (by kernel_rfl) (fun x hx => by cases hx; decide) (by kernel_rfl) (by kernel_rfl) Tryd.func197 (by kernel_rfl) (by kernel_rfl) (allm197 198 _ Tryd.func198 (by kernel_rfl) (by kernel_rfl) mark198))

theorem see146 : SeeOK Tryd.prog 3 9 146 ((.row 223 (.int .u8))) :=
  SeeOK.of_code Tryd.func146 rfl Tryd.ntmps146 (by decide) rfl
    (SeeCode.row (by kernel_rfl) (fun x hx => by cases hx; decide) (by kernel_rfl) Tryd.func199 (by kernel_rfl) (by kernel_rfl) (all199 200 _ Tryd.func200 (by kernel_rfl) (by kernel_rfl) see200))

theorem mark146 : MarkOK Tryd.prog 3 9 146 ((.row 223 (.int .u8))) :=
  MarkOK.of_code Tryd.func146 rfl Tryd.ntmps146 (by decide) rfl
    (MarkCode.row (by kernel_rfl) (fun x hx => by cases hx; decide) (by kernel_rfl) (by kernel_rfl) Tryd.func199 (by kernel_rfl) (by kernel_rfl) (allm199 200 _ Tryd.func200 (by kernel_rfl) (by kernel_rfl) mark200))

theorem see166 : SeeOK Tryd.prog 3 9 166 ((.seq (.int .u16) (.seq (.int .u16) (.int .u8)))) :=
  SeeOK.of_code Tryd.func166 rfl Tryd.ntmps166 (by decide) rfl
    (SeeCode.seq rfl (SeeCode.fieldB see164 (by kernel_rfl) (fun x hx => by cases hx; decide) (by kernel_rfl) (by kernel_rfl))
      (SeeCode.seq rfl (SeeCode.fieldB see164 (by kernel_rfl) (fun x hx => by cases hx; decide) (by kernel_rfl) (by kernel_rfl))
      (SeeCode.fieldB see131 (by kernel_rfl) (fun x hx => by cases hx; decide) (by kernel_rfl) (by kernel_rfl))))

theorem mark166 : MarkOK Tryd.prog 3 9 166 ((.seq (.int .u16) (.seq (.int .u16) (.int .u8)))) :=
  MarkOK.of_code Tryd.func166 rfl Tryd.ntmps166 (by decide) rfl
    (MarkCode.seq (MarkCode.fieldB mark164 (by kernel_rfl) (fun x hx => by cases hx; decide) (by kernel_rfl) (by kernel_rfl))
      (MarkCode.seq (MarkCode.fieldB mark164 (by kernel_rfl) (fun x hx => by cases hx; decide) (by kernel_rfl) (by kernel_rfl))
      (MarkCode.fieldB mark131 (by kernel_rfl) (fun x hx => by cases hx; decide) (by kernel_rfl) (by kernel_rfl))))

theorem see147 : SeeOK Tryd.prog 3 9 147 ((.row 113 (.seq (.int .u16) (.seq (.int .u16) (.int .u8))))) :=
  SeeOK.of_code Tryd.func147 rfl Tryd.ntmps147 (by decide) rfl
    (SeeCode.row (by kernel_rfl) (fun x hx => by cases hx; decide) (by kernel_rfl) Tryd.func201 (by kernel_rfl) (by kernel_rfl) (all201 166 _ Tryd.func166 (by kernel_rfl) (by kernel_rfl) see166))

theorem mark147 : MarkOK Tryd.prog 3 9 147 ((.row 113 (.seq (.int .u16) (.seq (.int .u16) (.int .u8))))) :=
  MarkOK.of_code Tryd.func147 rfl Tryd.ntmps147 (by decide) rfl
    (MarkCode.row (by kernel_rfl) (fun x hx => by cases hx; decide) (by kernel_rfl) (by kernel_rfl) Tryd.func201 (by kernel_rfl) (by kernel_rfl) (allm201 166 _ Tryd.func166 (by kernel_rfl) (by kernel_rfl) mark166))

theorem see148 : SeeOK Tryd.prog 3 9 148 ((.row 4 .bool)) :=
  SeeOK.of_code Tryd.func148 rfl Tryd.ntmps148 (by decide) rfl
    (SeeCode.row (by kernel_rfl) (fun x hx => by cases hx; decide) (by kernel_rfl) Tryd.func202 (by kernel_rfl) (by kernel_rfl) (all202 140 _ Tryd.func140 (by kernel_rfl) (by kernel_rfl) see140))

theorem mark148 : MarkOK Tryd.prog 3 9 148 ((.row 4 .bool)) :=
  MarkOK.of_code Tryd.func148 rfl Tryd.ntmps148 (by decide) rfl
    (MarkCode.row (by kernel_rfl) (fun x hx => by cases hx; decide) (by kernel_rfl) (by kernel_rfl) Tryd.func202 (by kernel_rfl) (by kernel_rfl) (allm202 140 _ Tryd.func140 (by kernel_rfl) (by kernel_rfl) mark140))

theorem see48 : SeeOK Tryd.prog 3 9 48 ((.seq (.row 221 (.seq (.int .u16) (.int .i64))) (.seq (.row 223 (.int .u8)) (.seq (.int .u8) (.seq (.row 113 (.seq (.int .u16) (.seq (.int .u16) (.int .u8)))) (.row 4 .bool)))))) :=
  SeeOK.of_code Tryd.func48 rfl Tryd.ntmps48 (by decide) rfl
    (SeeCode.seq rfl (SeeCode.fieldB see145 (by kernel_rfl) (fun x hx => by cases hx; decide) (by kernel_rfl) (by kernel_rfl))
      (SeeCode.seq rfl (SeeCode.fieldB see146 (by kernel_rfl) (fun x hx => by cases hx; decide) (by kernel_rfl) (by kernel_rfl))
      (SeeCode.seq rfl (SeeCode.fieldB see131 (by kernel_rfl) (fun x hx => by cases hx; decide) (by kernel_rfl) (by kernel_rfl))
      (SeeCode.seq rfl (SeeCode.fieldB see147 (by kernel_rfl) (fun x hx => by cases hx; decide) (by kernel_rfl) (by kernel_rfl))
      (SeeCode.fieldB see148 (by kernel_rfl) (fun x hx => by cases hx; decide) (by kernel_rfl) (by kernel_rfl))))))

theorem mark48 : MarkOK Tryd.prog 3 9 48 ((.seq (.row 221 (.seq (.int .u16) (.int .i64))) (.seq (.row 223 (.int .u8)) (.seq (.int .u8) (.seq (.row 113 (.seq (.int .u16) (.seq (.int .u16) (.int .u8)))) (.row 4 .bool)))))) :=
  MarkOK.of_code Tryd.func48 rfl Tryd.ntmps48 (by decide) rfl
    (MarkCode.seq (MarkCode.fieldB mark145 (by kernel_rfl) (fun x hx => by cases hx; decide) (by kernel_rfl) (by kernel_rfl))
      (MarkCode.seq (MarkCode.fieldB mark146 (by kernel_rfl) (fun x hx => by cases hx; decide) (by kernel_rfl) (by kernel_rfl))
      (MarkCode.seq (MarkCode.fieldB mark131 (by kernel_rfl) (fun x hx => by cases hx; decide) (by kernel_rfl) (by kernel_rfl))
      (MarkCode.seq (MarkCode.fieldB mark147 (by kernel_rfl) (fun x hx => by cases hx; decide) (by kernel_rfl) (by kernel_rfl))
      (MarkCode.fieldB mark148 (by kernel_rfl) (fun x hx => by cases hx; decide) (by kernel_rfl) (by kernel_rfl))))))

theorem see17 : SeeOK Tryd.prog 3 9 17 ((.row 3 (.int .i64))) :=
  SeeOK.of_code Tryd.func17 rfl Tryd.ntmps17 (by decide) rfl
    (SeeCode.row (by kernel_rfl) (fun x hx => by cases hx; decide) (by kernel_rfl) Tryd.func122 (by kernel_rfl) (by kernel_rfl) (all122 119 _ Tryd.func119 (by kernel_rfl) (by kernel_rfl) see119))

theorem mark17 : MarkOK Tryd.prog 3 9 17 ((.row 3 (.int .i64))) :=
  MarkOK.of_code Tryd.func17 rfl Tryd.ntmps17 (by decide) rfl
    (MarkCode.row (by kernel_rfl) (fun x hx => by cases hx; decide) (by kernel_rfl) (by kernel_rfl) Tryd.func122 (by kernel_rfl) (by kernel_rfl) (allm122 119 _ Tryd.func119 (by kernel_rfl) (by kernel_rfl) mark119))

theorem see55 : SeeOK Tryd.prog 3 9 55 ((.row 3 (.int .i64))) :=
  SeeOK.of_code Tryd.func55 rfl Tryd.ntmps55 (by decide) rfl (SeeCode.handed (by kernel_rfl) (fun x hx => by cases hx; decide) Tryd.func17 (by kernel_rfl) (by kernel_rfl) see17)

theorem mark55 : MarkOK Tryd.prog 3 9 55 ((.row 3 (.int .i64))) :=
  MarkOK.of_code Tryd.func55 rfl Tryd.ntmps55 (by decide) rfl (MarkCode.handed (by kernel_rfl) (fun x hx => by cases hx; decide) Tryd.func17 (by kernel_rfl) (by kernel_rfl) mark17)

theorem see58 : SeeOK Tryd.prog 3 9 58 ((.row 3 (.int .i64))) :=
  SeeOK.of_code Tryd.func58 rfl Tryd.ntmps58 (by decide) rfl (SeeCode.handed (by kernel_rfl) (fun x hx => by cases hx; decide) Tryd.func17 (by kernel_rfl) (by kernel_rfl) see17)

theorem mark58 : MarkOK Tryd.prog 3 9 58 ((.row 3 (.int .i64))) :=
  MarkOK.of_code Tryd.func58 rfl Tryd.ntmps58 (by decide) rfl (MarkCode.handed (by kernel_rfl) (fun x hx => by cases hx; decide) Tryd.func17 (by kernel_rfl) (by kernel_rfl) mark17)

theorem room55 : Room ((.row 3 (.int .i64))) [] [] := ⟨by decide, by decide⟩

theorem clos55 : ∀ b o, ClosS Tryd.prog 3 9 ⟨55, b, o, ((.row 3 (.int .i64)))⟩ := fun b o => ⟨see55, mark55, D.okB_ok (by kernel_rfl), room55, by kernel_rfl⟩

theorem room58 : Room ((.row 3 (.int .i64))) [] [] := ⟨by decide, by decide⟩

theorem clos58 : ∀ b o, ClosS Tryd.prog 3 9 ⟨58, b, o, ((.row 3 (.int .i64)))⟩ := fun b o => ⟨see58, mark58, D.okB_ok (by kernel_rfl), room58, by kernel_rfl⟩

theorem okT : dT.ok Tryd.prog := D.okB_ok (by kernel_rfl)

theorem roomT : Room dT [] [] := ⟨by decide, by decide⟩

end Go.Sx

namespace Go.Sx
open Go Go.Proofs

theorem copy141 : CopyRaw Tryd.prog 141 221 2 :=
  CopyRaw.of_codeB Tryd.func141 Tryd.ntmps141 rfl (by kernel_rfl) Tryd.underlying88 (by kernel_rfl) rfl

theorem own141 : OwnOK Tryd.prog 2000 141 false (.row 221 (.seq (.int .u16) (.int .i64))) :=
  OwnOK.rowB copy141 (Nat.le_refl _) rfl (by kernel_rfl)

theorem copy142 : CopyRaw Tryd.prog 142 223 1 :=
  CopyRaw.of_codeB Tryd.func142 Tryd.ntmps142 rfl (by kernel_rfl) Tryd.underlying89 (by kernel_rfl) rfl

theorem own142 : OwnOK Tryd.prog 2000 142 false (.row 223 (.int .u8)) :=
  OwnOK.rowB copy142 (Nat.le_refl _) rfl (by kernel_rfl)

theorem copy143 : CopyRaw Tryd.prog 143 113 3 :=
  CopyRaw.of_codeB Tryd.func143 Tryd.ntmps143 rfl (by kernel_rfl) Tryd.underlying90 (by kernel_rfl) rfl

theorem own143 : OwnOK Tryd.prog 2000 143 false (.row 113 (.seq (.int .u16) (.seq (.int .u16) (.int .u8)))) :=
  OwnOK.rowB copy143 (Nat.le_refl _) rfl (by kernel_rfl)

theorem copy144 : CopyRaw Tryd.prog 144 4 1 :=
  CopyRaw.of_codeB Tryd.func144 Tryd.ntmps144 rfl (by kernel_rfl) Tryd.underlying91 (by kernel_rfl) rfl

theorem own144 : OwnOK Tryd.prog 2000 144 false (.row 4 .bool) :=
  OwnOK.rowB copy144 (Nat.le_refl _) rfl (by kernel_rfl)

theorem own47 : OwnOK Tryd.prog 2000 47 true dT := by
  refine OwnOK.of_run (T := 93) (l := [(0, (.row 221 (.seq (.int .u16) (.int .i64)))), (1, (.row 223 (.int .u8))), (3, (.row 113 (.seq (.int .u16) (.seq (.int .u16) (.int .u8))))), (4, (.row 4 .bool))]) Tryd.func47 Tryd.ntmps47 (by kernel_rfl) (z := (zeroAt Tryd.prog 93).getD default) (by kernel_rfl) (by kernel_rfl) rfl ?_ (by kernel_rfl) (partsB_ok (by kernel_rfl))
  refine OwnRun.cons (by unfold LB; omega) own141 (D.okB_ok (by kernel_rfl)) (by kernel_rfl) (by kernel_rfl) (by kernel_rfl) (by kernel_rfl) (by kernel_rfl) (by kernel_rfl) (by kernel_rfl) ?_
  refine OwnRun.cons (by unfold LB; omega) own142 (D.okB_ok (by kernel_rfl)) (by kernel_rfl) (by kernel_rfl) (by kernel_rfl) (by kernel_rfl) (by kernel_rfl) (by kernel_rfl) (by kernel_rfl) ?_
  refine OwnRun.cons (by unfold LB; omega) own143 (D.okB_ok (by kernel_rfl)) (by kernel_rfl) (by kernel_rfl) (by kernel_rfl) (by kernel_rfl) (by kernel_rfl) (by kernel_rfl) (by kernel_rfl) ?_
  refine OwnRun.cons (by unfold LB; omega) own144 (D.okB_ok (by kernel_rfl)) (by kernel_rfl) (by kernel_rfl) (by kernel_rfl) (by kernel_rfl) (by kernel_rfl) (by kernel_rfl) (by kernel_rfl) ?_
  exact OwnRun.fin rfl (by kernel_rfl) (by kernel_rfl) (by kernel_rfl)

end Go.Sx
