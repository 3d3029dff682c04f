/- Part ConD of the proof of the law connections: helper lemmas for the proof; no conditions. -/
import Derived.Test.YtiecagflhhmfnaaDoorK
import Derived.Test.YtiecagflhhmfnaaDoorConW
import Derived.Test.YtiecagflhhmfnaaDoorProg
import Derived.KernelRfl
import Derived.OwnWalk

namespace Go.Sx
open Go Go.Proofs

abbrev dT : D := (.seq (.seq (.int .u8) (.seq (.int .u32) (.seq (.int .u32) (.seq (.int .u8) (.seq (.int .u8) (.seq (.int .u8) (.seq (.int .u8) (.row 5 (.int .u8))))))))) (.row 5 (.int .u8)))

theorem see27 : SeeOK Tryd.prog 3 9 27 ((.row 5 (.int .u8))) :=
  SeeOK.of_code Tryd.func27 rfl Tryd.ntmps27 (by decide) rfl
    (SeeCode.row (by kernel_rfl) (fun x hx => by cases hx; decide) (by kernel_rfl) Tryd.func130 (by kernel_rfl) (by kernel_rfl) (all130 131 _ Tryd.func131 (by kernel_rfl) (by kernel_rfl) see131))

theorem mark27 : MarkOK Tryd.prog 3 9 27 ((.row 5 (.int .u8))) :=
  MarkOK.of_code Tryd.func27 rfl Tryd.ntmps27 (by decide) rfl
    (MarkCode.row (by kernel_rfl) (fun x hx => by cases hx; decide) (by kernel_rfl) (by kernel_rfl) Tryd.func130 (by kernel_rfl) (by kernel_rfl) (allm130 131 _ Tryd.func131 (by kernel_rfl) (by kernel_rfl) mark131))

theorem see31 : SeeOK Tryd.prog 3 9 31 ((.seq (.int .u8) (.seq (.int .u32) (.seq (.int .u32) (.seq (.int .u8) (.seq (.int .u8) (.seq (.int .u8) (.seq (.int .u8) (.row 5 (.int .u8)))))))))) :=
  SeeOK.of_code Tryd.func31 rfl Tryd.ntmps31 (by decide) rfl
    (SeeCode.seq rfl (SeeCode.fieldB see133 (by kernel_rfl) (fun x hx => by cases hx; decide) (by kernel_rfl) (by kernel_rfl))
      (SeeCode.seq rfl (SeeCode.fieldB see134 (by kernel_rfl) (fun x hx => by cases hx; decide) (by kernel_rfl) (by kernel_rfl))
      (SeeCode.seq rfl (SeeCode.fieldB see134 (by kernel_rfl) (fun x hx => by cases hx; decide) (by kernel_rfl) (by kernel_rfl))
      (SeeCode.seq rfl (SeeCode.fieldB see131 (by kernel_rfl) (fun x hx => by cases hx; decide) (by kernel_rfl) (by kernel_rfl))
      (SeeCode.seq rfl (SeeCode.fieldB see131 (by kernel_rfl) (fun x hx => by cases hx; decide) (by kernel_rfl) (by kernel_rfl))
      (SeeCode.seq rfl (SeeCode.fieldB see131 (by kernel_rfl) (fun x hx => by cases hx; decide) (by kernel_rfl) (by kernel_rfl))
      (SeeCode.seq rfl (SeeCode.fieldB see131 (by kernel_rfl) (fun x hx => by cases hx; decide) (by kernel_rfl) (by kernel_rfl))
      (SeeCode.fieldB see27 (by kernel_rfl) (fun x hx => by cases hx; decide) (by kernel_rfl) (by kernel_rfl)))))))))

theorem mark31 : MarkOK Tryd.prog 3 9 31 ((.seq (.int .u8) (.seq (.int .u32) (.seq (.int .u32) (.seq (.int .u8) (.seq (.int .u8) (.seq (.int .u8) (.seq (.int .u8) (.row 5 (.int .u8)))))))))) :=
  MarkOK.of_code Tryd.func31 rfl Tryd.ntmps31 (by decide) rfl
    (MarkCode.seq (MarkCode.fieldB mark133 (by kernel_rfl) (fun x hx => by cases hx; decide) (by kernel_rfl) (by kernel_rfl))
      (MarkCode.seq (MarkCode.fieldB mark134 (by kernel_rfl) (fun x hx => by cases hx; decide) (by kernel_rfl) (by kernel_rfl))
      (MarkCode.seq (MarkCode.fieldB mark134 (by kernel_rfl) (fun x hx => by cases hx; decide) (by kernel_rfl) (by kernel_rfl))
      (MarkCode.seq (MarkCode.fieldB mark131 (by kernel_rfl) (fun x hx => by cases hx; decide) (by kernel_rfl) (by kernel_rfl))
      (MarkCode.seq (MarkCode.fieldB mark131 (by kernel_rfl) (fun x hx => by cases hx; decide) (by kernel_rfl) (by kernel_rfl))
      (MarkCode.seq (MarkCode.fieldB mark131 (by kernel_rfl) (fun x hx => by cases hx; decide) (by kernel_rfl) (by kernel_rfl))
      (MarkCode.seq (MarkCode.fieldB mark131 (by kernel_rfl) (fun x hx => by cases hx; decide) (by kernel_rfl) (by kernel_rfl))
      (MarkCode.fieldB mark27 (by kernel_rfl) (fun x hx => by cases hx; decide) (by kernel_rfl) (by kernel_rfl)))))))))

theorem see21 : SeeOK Tryd.prog 3 9 21 ((.seq (.seq (.int .u8) (.seq (.int .u32) (.seq (.int .u32) (.seq (.int .u8) (.seq (.int .u8) (.seq (.int .u8) (.seq (.int .u8) (.row 5 (.int .u8))))))))) (.row 5 (.int .u8)))) :=
  SeeOK.of_code Tryd.func21 rfl Tryd.ntmps21 (by decide) rfl
    (SeeCode.seq rfl (SeeCode.fieldB see31 (by kernel_rfl) (fun x hx => by cases hx; decide) (by kernel_rfl) (by kernel_rfl))
      (SeeCode.fieldB see27 (by kernel_rfl) (fun x hx => by cases hx; decide) (by kernel_rfl) (by kernel_rfl)))

theorem mark21 : MarkOK Tryd.prog 3 9 21 ((.seq (.seq (.int .u8) (.seq (.int .u32) (.seq (.int .u32) (.seq (.int .u8) (.seq (.int .u8) (.seq (.int .u8) (.seq (.int .u8) (.row 5 (.int .u8))))))))) (.row 5 (.int .u8)))) :=
  MarkOK.of_code Tryd.func21 rfl Tryd.ntmps21 (by decide) rfl
    (MarkCode.seq (MarkCode.fieldB mark31 (by kernel_rfl) (fun x hx => by cases hx; decide) (by kernel_rfl) (by kernel_rfl))
      (MarkCode.fieldB mark27 (by kernel_rfl) (fun x hx => by cases hx; decide) (by kernel_rfl) (by kernel_rfl)))

theorem see26 : SeeOK Tryd.prog 3 9 26 ((.row 5 (.int .u8))) :=
  SeeOK.of_code Tryd.func26 rfl Tryd.ntmps26 (by decide) rfl (SeeCode.handed (by kernel_rfl) (fun x hx => by cases hx; decide) Tryd.func27 (by kernel_rfl) (by kernel_rfl) see27)

theorem mark26 : MarkOK Tryd.prog 3 9 26 ((.row 5 (.int .u8))) :=
  MarkOK.of_code Tryd.func26 rfl Tryd.ntmps26 (by decide) rfl (MarkCode.handed (by kernel_rfl) (fun x hx => by cases hx; decide) Tryd.func27 (by kernel_rfl) (by kernel_rfl) mark27)

theorem see30 : SeeOK Tryd.prog 3 9 30 ((.seq (.int .u8) (.seq (.int .u32) (.seq (.int .u32) (.seq (.int .u8) (.seq (.int .u8) (.seq (.int .u8) (.seq (.int .u8) (.row 5 (.int .u8)))))))))) :=
  SeeOK.of_code Tryd.func30 rfl Tryd.ntmps30 (by decide) rfl (SeeCode.handed (by kernel_rfl) (fun x hx => by cases hx; decide) Tryd.func31 (by kernel_rfl) (by kernel_rfl) see31)

theorem mark30 : MarkOK Tryd.prog 3 9 30 ((.seq (.int .u8) (.seq (.int .u32) (.seq (.int .u32) (.seq (.int .u8) (.seq (.int .u8) (.seq (.int .u8) (.seq (.int .u8) (.row 5 (.int .u8)))))))))) :=
  MarkOK.of_code Tryd.func30 rfl Tryd.ntmps30 (by decide) rfl (MarkCode.handed (by kernel_rfl) (fun x hx => by cases hx; decide) Tryd.func31 (by kernel_rfl) (by kernel_rfl) mark31)

theorem room26 : Room ((.row 5 (.int .u8))) [] [] := ⟨by decide, by decide⟩

theorem clos26 : ∀ b o, ClosS Tryd.prog 3 9 ⟨26, b, o, ((.row 5 (.int .u8)))⟩ := fun b o => ⟨see26, mark26, D.okB_ok (by kernel_rfl), room26, by kernel_rfl⟩

theorem room30 : Room ((.seq (.int .u8) (.seq (.int .u32) (.seq (.int .u32) (.seq (.int .u8) (.seq (.int .u8) (.seq (.int .u8) (.seq (.int .u8) (.row 5 (.int .u8)))))))))) [] [] := ⟨by decide, by decide⟩

theorem clos30 : ∀ b o, ClosS Tryd.prog 3 9 ⟨30, b, o, ((.seq (.int .u8) (.seq (.int .u32) (.seq (.int .u32) (.seq (.int .u8) (.seq (.int .u8) (.seq (.int .u8) (.seq (.int .u8) (.row 5 (.int .u8))))))))))⟩ := fun b o => ⟨see30, mark30, D.okB_ok (by kernel_rfl), room30, by kernel_rfl⟩

theorem okT : dT.ok Tryd.prog := D.okB_ok (by kernel_rfl)

theorem roomT : Room dT [] [] := ⟨by decide, by decide⟩

end Go.Sx

namespace Go.Sx
open Go Go.Proofs

theorem copy129 : CopyRaw Tryd.prog 129 5 1 :=
  CopyRaw.of_codeB Tryd.func129 Tryd.ntmps129 rfl (by kernel_rfl) Tryd.underlying46 (by kernel_rfl) rfl

theorem own129 : OwnOK Tryd.prog 2000 129 false (.row 5 (.int .u8)) :=
  OwnOK.rowB copy129 (Nat.le_refl _) rfl (by kernel_rfl)

theorem own128 : OwnOK Tryd.prog 2000 128 true (.seq (.int .u8) (.seq (.int .u32) (.seq (.int .u32) (.seq (.int .u8) (.seq (.int .u8) (.seq (.int .u8) (.seq (.int .u8) (.row 5 (.int .u8))))))))) := by
  refine OwnOK.of_run (T := 48) (l := [(7, (.row 5 (.int .u8)))]) Tryd.func128 Tryd.ntmps128 (by kernel_rfl) (z := (zeroAt Tryd.prog 48).getD default) (by kernel_rfl) (by kernel_rfl) rfl ?_ (by kernel_rfl) (partsB_ok (by kernel_rfl))
  refine OwnRun.cons (by unfold LB; omega) own129 (D.okB_ok (by kernel_rfl)) (by kernel_rfl) (by kernel_rfl) (by kernel_rfl) (by kernel_rfl) (by kernel_rfl) (by kernel_rfl) (by kernel_rfl) ?_
  exact OwnRun.fin rfl (by kernel_rfl) (by kernel_rfl) (by kernel_rfl)

theorem own20 : OwnOK Tryd.prog 2000 20 true dT := by
  refine OwnOK.of_run (T := 50) (l := [(0, (.seq (.int .u8) (.seq (.int .u32) (.seq (.int .u32) (.seq (.int .u8) (.seq (.int .u8) (.seq (.int .u8) (.seq (.int .u8) (.row 5 (.int .u8)))))))))), (8, (.row 5 (.int .u8)))]) Tryd.func20 Tryd.ntmps20 (by kernel_rfl) (z := (zeroAt Tryd.prog 50).getD default) (by kernel_rfl) (by kernel_rfl) rfl ?_ (by kernel_rfl) (partsB_ok (by kernel_rfl))
  refine OwnRun.cons (by unfold LB; omega) own128 (D.okB_ok (by kernel_rfl)) (by kernel_rfl) (by kernel_rfl) (by kernel_rfl) (by kernel_rfl) (by kernel_rfl) (by kernel_rfl) (by kernel_rfl) ?_
  refine OwnRun.cons (by unfold LB; omega) own129 (D.okB_ok (by kernel_rfl)) (by kernel_rfl) (by kernel_rfl) (by kernel_rfl) (by kernel_rfl) (by kernel_rfl) (by kernel_rfl) (by kernel_rfl) ?_
  exact OwnRun.fin rfl (by kernel_rfl) (by kernel_rfl) (by kernel_rfl)

end Go.Sx
