/- Part TrnD of a proof: helper lemmas; no conditions. -/
import Derived.Test.YtiecagflhhmfnaaDoorK
import Derived.Test.YtiecagflhhmfnaaDoorTrnW
import Derived.Test.YtiecagflhhmfnaaDoorProg
import Derived.KernelRfl
import Derived.OwnWalk
import Derived.Test.YtiecagflhhmfnaaDoorLB
import Derived.WalkKit
import Derived.WalkSpells
import Derived.StillTactics
import Derived.Laws.Pointers
import Derived.Deep.RegionLaw
import Derived.Deep.AppendLies
import Derived.Deep.LoopGhost

set_option linter.unusedSimpArgs false
set_option linter.unusedVariables false

namespace Go.Sx
open Go Go.Proofs

abbrev dT : D := (.seq (.seq (.int .u8) (.seq (.int .u32) (.seq (.int .u32) (.seq (.int .u8) (.row 5 (.int .u8)))))) (.row 5 (.int .u8)))
abbrev glL : List (Nat × List CT) := []

theorem see27 : SeeOK Tryd.prog 3 9 27 ((.row 5 (.int .u8))) :=
  SeeOK.of_code Tryd.func27 rfl Tryd.ntmps27 (by decide) rfl
    (SeeCode.row (by kernel_rfl) (fun x hx => by cases hx; decide) (by kernel_rfl) Tryd.func130 (by kernel_rfl) (by kernel_rfl) (all130 131 _ Tryd.func131 (by kernel_rfl) (by kernel_rfl) see131))

theorem mark27 : MarkOK Tryd.prog 3 9 27 ((.row 5 (.int .u8))) :=
  MarkOK.of_code Tryd.func27 rfl Tryd.ntmps27 (by decide) rfl
    (MarkCode.row (by kernel_rfl) (fun x hx => by cases hx; decide) (by kernel_rfl) (by kernel_rfl) Tryd.func130 (by kernel_rfl) (by kernel_rfl) (allm130 131 _ Tryd.func131 (by kernel_rfl) (by kernel_rfl) mark131))

theorem see112 : SeeOK Tryd.prog 3 9 112 ((.seq (.int .u8) (.seq (.int .u32) (.seq (.int .u32) (.seq (.int .u8) (.row 5 (.int .u8))))))) :=
  SeeOK.of_code Tryd.func112 rfl Tryd.ntmps112 (by decide) rfl
    (SeeCode.seq rfl (SeeCode.fieldB see189 (by kernel_rfl) (fun x hx => by cases hx; decide) (by kernel_rfl) (by kernel_rfl))
      (SeeCode.seq rfl (SeeCode.fieldB see134 (by kernel_rfl) (fun x hx => by cases hx; decide) (by kernel_rfl) (by kernel_rfl))
      (SeeCode.seq rfl (SeeCode.fieldB see134 (by kernel_rfl) (fun x hx => by cases hx; decide) (by kernel_rfl) (by kernel_rfl))
      (SeeCode.seq rfl (SeeCode.fieldB see131 (by kernel_rfl) (fun x hx => by cases hx; decide) (by kernel_rfl) (by kernel_rfl))
      (SeeCode.fieldB see27 (by kernel_rfl) (fun x hx => by cases hx; decide) (by kernel_rfl) (by kernel_rfl))))))

theorem mark112 : MarkOK Tryd.prog 3 9 112 ((.seq (.int .u8) (.seq (.int .u32) (.seq (.int .u32) (.seq (.int .u8) (.row 5 (.int .u8))))))) :=
  MarkOK.of_code Tryd.func112 rfl Tryd.ntmps112 (by decide) rfl
    (MarkCode.seq (MarkCode.fieldB mark189 (by kernel_rfl) (fun x hx => by cases hx; decide) (by kernel_rfl) (by kernel_rfl))
      (MarkCode.seq (MarkCode.fieldB mark134 (by kernel_rfl) (fun x hx => by cases hx; decide) (by kernel_rfl) (by kernel_rfl))
      (MarkCode.seq (MarkCode.fieldB mark134 (by kernel_rfl) (fun x hx => by cases hx; decide) (by kernel_rfl) (by kernel_rfl))
      (MarkCode.seq (MarkCode.fieldB mark131 (by kernel_rfl) (fun x hx => by cases hx; decide) (by kernel_rfl) (by kernel_rfl))
      (MarkCode.fieldB mark27 (by kernel_rfl) (fun x hx => by cases hx; decide) (by kernel_rfl) (by kernel_rfl))))))

theorem see103 : SeeOK Tryd.prog 3 9 103 ((.seq (.seq (.int .u8) (.seq (.int .u32) (.seq (.int .u32) (.seq (.int .u8) (.row 5 (.int .u8)))))) (.row 5 (.int .u8)))) :=
  SeeOK.of_code Tryd.func103 rfl Tryd.ntmps103 (by decide) rfl
    (SeeCode.seq rfl (SeeCode.fieldB see112 (by kernel_rfl) (fun x hx => by cases hx; decide) (by kernel_rfl) (by kernel_rfl))
      (SeeCode.fieldB see27 (by kernel_rfl) (fun x hx => by cases hx; decide) (by kernel_rfl) (by kernel_rfl)))

theorem mark103 : MarkOK Tryd.prog 3 9 103 ((.seq (.seq (.int .u8) (.seq (.int .u32) (.seq (.int .u32) (.seq (.int .u8) (.row 5 (.int .u8)))))) (.row 5 (.int .u8)))) :=
  MarkOK.of_code Tryd.func103 rfl Tryd.ntmps103 (by decide) rfl
    (MarkCode.seq (MarkCode.fieldB mark112 (by kernel_rfl) (fun x hx => by cases hx; decide) (by kernel_rfl) (by kernel_rfl))
      (MarkCode.fieldB mark27 (by kernel_rfl) (fun x hx => by cases hx; decide) (by kernel_rfl) (by kernel_rfl)))

theorem see108 : SeeOK Tryd.prog 3 9 108 ((.row 5 (.int .u8))) :=
  SeeOK.of_code Tryd.func108 rfl Tryd.ntmps108 (by decide) rfl (SeeCode.handed (by kernel_rfl) (fun x hx => by cases hx; decide) Tryd.func27 (by kernel_rfl) (by kernel_rfl) see27)

theorem mark108 : MarkOK Tryd.prog 3 9 108 ((.row 5 (.int .u8))) :=
  MarkOK.of_code Tryd.func108 rfl Tryd.ntmps108 (by decide) rfl (MarkCode.handed (by kernel_rfl) (fun x hx => by cases hx; decide) Tryd.func27 (by kernel_rfl) (by kernel_rfl) mark27)

theorem see111 : SeeOK Tryd.prog 3 9 111 ((.seq (.int .u8) (.seq (.int .u32) (.seq (.int .u32) (.seq (.int .u8) (.row 5 (.int .u8))))))) :=
  SeeOK.of_code Tryd.func111 rfl Tryd.ntmps111 (by decide) rfl (SeeCode.handed (by kernel_rfl) (fun x hx => by cases hx; decide) Tryd.func112 (by kernel_rfl) (by kernel_rfl) see112)

theorem mark111 : MarkOK Tryd.prog 3 9 111 ((.seq (.int .u8) (.seq (.int .u32) (.seq (.int .u32) (.seq (.int .u8) (.row 5 (.int .u8))))))) :=
  MarkOK.of_code Tryd.func111 rfl Tryd.ntmps111 (by decide) rfl (MarkCode.handed (by kernel_rfl) (fun x hx => by cases hx; decide) Tryd.func112 (by kernel_rfl) (by kernel_rfl) mark112)

theorem room108 : Room ((.row 5 (.int .u8))) [] [] := ⟨by decide, by decide⟩

theorem clos108 : ∀ b o, ClosS Tryd.prog 3 9 ⟨108, b, o, ((.row 5 (.int .u8)))⟩ := fun b o => ⟨see108, mark108, D.okB_ok (by kernel_rfl), room108, by kernel_rfl⟩

theorem room111 : Room ((.seq (.int .u8) (.seq (.int .u32) (.seq (.int .u32) (.seq (.int .u8) (.row 5 (.int .u8))))))) [] [] := ⟨by decide, by decide⟩

theorem clos111 : ∀ b o, ClosS Tryd.prog 3 9 ⟨111, b, o, ((.seq (.int .u8) (.seq (.int .u32) (.seq (.int .u32) (.seq (.int .u8) (.row 5 (.int .u8)))))))⟩ := fun b o => ⟨see111, mark111, D.okB_ok (by kernel_rfl), room111, by kernel_rfl⟩

theorem okT : dT.ok Tryd.prog := D.okB_ok (by kernel_rfl)

theorem roomT : Room dT [] [] := ⟨by decide, by decide⟩

end Go.Sx

namespace Go.Sx
open Go Go.Proofs

theorem copy129 : CopyRaw Tryd.prog 129 5 1 :=
  CopyRaw.of_codeB Tryd.func129 Tryd.ntmps129 rfl (by kernel_rfl) Tryd.underlying46 (by kernel_rfl) rfl

theorem own129 : OwnOK Tryd.prog 2000 129 false (.row 5 (.int .u8)) :=
  OwnOK.rowB copy129 (Nat.le_refl _) rfl (by kernel_rfl)

theorem own183 : OwnOK Tryd.prog 2000 183 true (.seq (.int .u8) (.seq (.int .u32) (.seq (.int .u32) (.seq (.int .u8) (.row 5 (.int .u8)))))) := by
  refine OwnOK.of_run (T := 162) (l := [(4, (.row 5 (.int .u8)))]) Tryd.func183 Tryd.ntmps183 (by kernel_rfl) (z := (zeroAt Tryd.prog 162).getD default) (by kernel_rfl) (by kernel_rfl) rfl ?_ (by kernel_rfl) (partsB_ok (by kernel_rfl))
  refine OwnRun.cons (by unfold LB; omega) own129 (D.okB_ok (by kernel_rfl)) (by kernel_rfl) (by kernel_rfl) (by kernel_rfl) (by kernel_rfl) (by kernel_rfl) (by kernel_rfl) (by kernel_rfl) ?_
  exact OwnRun.fin rfl (by kernel_rfl) (by kernel_rfl) (by kernel_rfl)

theorem own102 : OwnOK Tryd.prog 2000 102 true dT := by
  refine OwnOK.of_run (T := 164) (l := [(0, (.seq (.int .u8) (.seq (.int .u32) (.seq (.int .u32) (.seq (.int .u8) (.row 5 (.int .u8))))))), (5, (.row 5 (.int .u8)))]) Tryd.func102 Tryd.ntmps102 (by kernel_rfl) (z := (zeroAt Tryd.prog 164).getD default) (by kernel_rfl) (by kernel_rfl) rfl ?_ (by kernel_rfl) (partsB_ok (by kernel_rfl))
  refine OwnRun.cons (by unfold LB; omega) own183 (D.okB_ok (by kernel_rfl)) (by kernel_rfl) (by kernel_rfl) (by kernel_rfl) (by kernel_rfl) (by kernel_rfl) (by kernel_rfl) (by kernel_rfl) ?_
  refine OwnRun.cons (by unfold LB; omega) own129 (D.okB_ok (by kernel_rfl)) (by kernel_rfl) (by kernel_rfl) (by kernel_rfl) (by kernel_rfl) (by kernel_rfl) (by kernel_rfl) (by kernel_rfl) ?_
  exact OwnRun.fin rfl (by kernel_rfl) (by kernel_rfl) (by kernel_rfl)

end Go.Sx
