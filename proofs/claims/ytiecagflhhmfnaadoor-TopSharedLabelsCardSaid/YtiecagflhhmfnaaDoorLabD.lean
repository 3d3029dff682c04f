/- Part LabD of a proof: helper lemmas; no conditions. -/
import Derived.Test.YtiecagflhhmfnaaDoorK
import Derived.Test.YtiecagflhhmfnaaDoorLabW
import Derived.Test.YtiecagflhhmfnaaDoorProg
import Derived.KernelRfl
import Derived.OwnWalk

namespace Go.Sx
open Go Go.Proofs

abbrev dT : D := (.seq (.int .u16) (.seq .str (.seq (.seq (.int .u8) (.seq (.int .u8) (.seq (.int .u8) (.seq (.seq (.int .u16) (.seq (.int .u16) (.int .u8))) (.row 5 (.int .u8)))))) (.seq (.row 5 (.int .u8)) (.seq (.int .u8) (.seq (.int .u16) (.seq (.int .u16) (.seq (.int .u8) (.seq (.seq (.int .u16) (.seq (.int .u16) (.int .u8))) (.seq (.seq (.int .u16) (.seq (.int .u16) (.int .u8))) (.seq (.seq (.int .u16) (.seq (.int .u16) (.int .u8))) (.seq (.seq (.int .u8) (.seq (.int .u8) (.seq (.int .u8) (.seq (.seq (.int .u16) (.seq (.int .u16) (.int .u8))) (.row 5 (.int .u8)))))) (.seq (.int .u8) (.seq (.int .u8) (.seq (.int .u8) (.seq (.seq (.int .u16) (.seq (.int .u16) (.int .u8))) (.row 5 (.int .u8))))))))))))))))))

theorem see168 : SeeOK Tryd.prog 3 9 168 ((.seq (.int .u16) (.seq (.int .u16) (.int .u8)))) :=
  SeeOK.of_code Tryd.func168 rfl Tryd.ntmps168 (by decide) rfl
    (SeeCode.seq rfl (SeeCode.fieldB see164 (by kernel_rfl) (fun x hx => by cases hx; decide) (by kernel_rfl) (by kernel_rfl))
      (SeeCode.seq rfl (SeeCode.fieldB see164 (by kernel_rfl) (fun x hx => by cases hx; decide) (by kernel_rfl) (by kernel_rfl))
      (SeeCode.fieldB see131 (by kernel_rfl) (fun x hx => by cases hx; decide) (by kernel_rfl) (by kernel_rfl))))

theorem mark168 : MarkOK Tryd.prog 3 9 168 ((.seq (.int .u16) (.seq (.int .u16) (.int .u8)))) :=
  MarkOK.of_code Tryd.func168 rfl Tryd.ntmps168 (by decide) rfl
    (MarkCode.seq (MarkCode.fieldB mark164 (by kernel_rfl) (fun x hx => by cases hx; decide) (by kernel_rfl) (by kernel_rfl))
      (MarkCode.seq (MarkCode.fieldB mark164 (by kernel_rfl) (fun x hx => by cases hx; decide) (by kernel_rfl) (by kernel_rfl))
      (MarkCode.fieldB mark131 (by kernel_rfl) (fun x hx => by cases hx; decide) (by kernel_rfl) (by kernel_rfl))))

theorem see27 : SeeOK Tryd.prog 3 9 27 ((.row 5 (.int .u8))) :=
  SeeOK.of_code Tryd.func27 rfl Tryd.ntmps27 (by decide) rfl
    (SeeCode.row (by kernel_rfl) (fun x hx => by cases hx; decide) (by kernel_rfl) Tryd.func130 (by kernel_rfl) (by kernel_rfl) (all130 131 _ Tryd.func131 (by kernel_rfl) (by kernel_rfl) see131))

theorem mark27 : MarkOK Tryd.prog 3 9 27 ((.row 5 (.int .u8))) :=
  MarkOK.of_code Tryd.func27 rfl Tryd.ntmps27 (by decide) rfl
    (MarkCode.row (by kernel_rfl) (fun x hx => by cases hx; decide) (by kernel_rfl) (by kernel_rfl) Tryd.func130 (by kernel_rfl) (by kernel_rfl) (allm130 131 _ Tryd.func131 (by kernel_rfl) (by kernel_rfl) mark131))

theorem see70 : SeeOK Tryd.prog 3 9 70 ((.seq (.int .u8) (.seq (.int .u8) (.seq (.int .u8) (.seq (.seq (.int .u16) (.seq (.int .u16) (.int .u8))) (.row 5 (.int .u8))))))) :=
  SeeOK.of_code Tryd.func70 rfl Tryd.ntmps70 (by decide) rfl
    (SeeCode.seq rfl (SeeCode.fieldB see131 (by kernel_rfl) (fun x hx => by cases hx; decide) (by kernel_rfl) (by kernel_rfl))
      (SeeCode.seq rfl (SeeCode.fieldB see131 (by kernel_rfl) (fun x hx => by cases hx; decide) (by kernel_rfl) (by kernel_rfl))
      (SeeCode.seq rfl (SeeCode.fieldB see131 (by kernel_rfl) (fun x hx => by cases hx; decide) (by kernel_rfl) (by kernel_rfl))
      (SeeCode.seq rfl (SeeCode.fieldB see168 (by kernel_rfl) (fun x hx => by cases hx; decide) (by kernel_rfl) (by kernel_rfl))
      (SeeCode.fieldB see27 (by kernel_rfl) (fun x hx => by cases hx; decide) (by kernel_rfl) (by kernel_rfl))))))

theorem mark70 : MarkOK Tryd.prog 3 9 70 ((.seq (.int .u8) (.seq (.int .u8) (.seq (.int .u8) (.seq (.seq (.int .u16) (.seq (.int .u16) (.int .u8))) (.row 5 (.int .u8))))))) :=
  MarkOK.of_code Tryd.func70 rfl Tryd.ntmps70 (by decide) rfl
    (MarkCode.seq (MarkCode.fieldB mark131 (by kernel_rfl) (fun x hx => by cases hx; decide) (by kernel_rfl) (by kernel_rfl))
      (MarkCode.seq (MarkCode.fieldB mark131 (by kernel_rfl) (fun x hx => by cases hx; decide) (by kernel_rfl) (by kernel_rfl))
      (MarkCode.seq (MarkCode.fieldB mark131 (by kernel_rfl) (fun x hx => by cases hx; decide) (by kernel_rfl) (by kernel_rfl))
      (MarkCode.seq (MarkCode.fieldB mark168 (by kernel_rfl) (fun x hx => by cases hx; decide) (by kernel_rfl) (by kernel_rfl))
      (MarkCode.fieldB mark27 (by kernel_rfl) (fun x hx => by cases hx; decide) (by kernel_rfl) (by kernel_rfl))))))

theorem see166 : SeeOK Tryd.prog 3 9 166 ((.seq (.int .u16) (.seq (.int .u16) (.int .u8)))) :=
  SeeOK.of_code Tryd.func166 rfl Tryd.ntmps166 (by decide) rfl
    (SeeCode.seq rfl (SeeCode.fieldB see164 (by kernel_rfl) (fun x hx => by cases hx; decide) (by kernel_rfl) (by kernel_rfl))
      (SeeCode.seq rfl (SeeCode.fieldB see164 (by kernel_rfl) (fun x hx => by cases hx; decide) (by kernel_rfl) (by kernel_rfl))
      (SeeCode.fieldB see131 (by kernel_rfl) (fun x hx => by cases hx; decide) (by kernel_rfl) (by kernel_rfl))))

theorem mark166 : MarkOK Tryd.prog 3 9 166 ((.seq (.int .u16) (.seq (.int .u16) (.int .u8)))) :=
  MarkOK.of_code Tryd.func166 rfl Tryd.ntmps166 (by decide) rfl
    (MarkCode.seq (MarkCode.fieldB mark164 (by kernel_rfl) (fun x hx => by cases hx; decide) (by kernel_rfl) (by kernel_rfl))
      (MarkCode.seq (MarkCode.fieldB mark164 (by kernel_rfl) (fun x hx => by cases hx; decide) (by kernel_rfl) (by kernel_rfl))
      (MarkCode.fieldB mark131 (by kernel_rfl) (fun x hx => by cases hx; decide) (by kernel_rfl) (by kernel_rfl))))

theorem see61 : SeeOK Tryd.prog 3 9 61 ((.seq (.int .u16) (.seq .str (.seq (.seq (.int .u8) (.seq (.int .u8) (.seq (.int .u8) (.seq (.seq (.int .u16) (.seq (.int .u16) (.int .u8))) (.row 5 (.int .u8)))))) (.seq (.row 5 (.int .u8)) (.seq (.int .u8) (.seq (.int .u16) (.seq (.int .u16) (.seq (.int .u8) (.seq (.seq (.int .u16) (.seq (.int .u16) (.int .u8))) (.seq (.seq (.int .u16) (.seq (.int .u16) (.int .u8))) (.seq (.seq (.int .u16) (.seq (.int .u16) (.int .u8))) (.seq (.seq (.int .u8) (.seq (.int .u8) (.seq (.int .u8) (.seq (.seq (.int .u16) (.seq (.int .u16) (.int .u8))) (.row 5 (.int .u8)))))) (.seq (.int .u8) (.seq (.int .u8) (.seq (.int .u8) (.seq (.seq (.int .u16) (.seq (.int .u16) (.int .u8))) (.row 5 (.int .u8))))))))))))))))))) :=
  SeeOK.of_code Tryd.func61 rfl Tryd.ntmps61 (by decide) rfl
    (SeeCode.seq rfl (SeeCode.fieldB see164 (by kernel_rfl) (fun x hx => by cases hx; decide) (by kernel_rfl) (by kernel_rfl))
      (SeeCode.seq rfl (SeeCode.fieldB see165 (by kernel_rfl) (fun x hx => by cases hx; decide) (by kernel_rfl) (by kernel_rfl))
      (SeeCode.seq rfl (SeeCode.fieldB see70 (by kernel_rfl) (fun x hx => by cases hx; decide) (by kernel_rfl) (by kernel_rfl))
      (SeeCode.seq rfl (SeeCode.fieldB see27 (by kernel_rfl) (fun x hx => by cases hx; decide) (by kernel_rfl) (by kernel_rfl))
      (SeeCode.seq rfl (SeeCode.fieldB see131 (by kernel_rfl) (fun x hx => by cases hx; decide) (by kernel_rfl) (by kernel_rfl))
      (SeeCode.seq rfl (SeeCode.fieldB see164 (by kernel_rfl) (fun x hx => by cases hx; decide) (by kernel_rfl) (by kernel_rfl))
      (SeeCode.seq rfl (SeeCode.fieldB see164 (by kernel_rfl) (fun x hx => by cases hx; decide) (by kernel_rfl) (by kernel_rfl))
      (SeeCode.seq rfl (SeeCode.fieldB see131 (by kernel_rfl) (fun x hx => by cases hx; decide) (by kernel_rfl) (by kernel_rfl))
      (SeeCode.seq rfl (SeeCode.fieldB see166 (by kernel_rfl) (fun x hx => by cases hx; decide) (by kernel_rfl) (by kernel_rfl))
      (SeeCode.seq rfl (SeeCode.fieldB see166 (by kernel_rfl) (fun x hx => by cases hx; decide) (by kernel_rfl) (by kernel_rfl))
      (SeeCode.seq rfl (SeeCode.fieldB see166 (by kernel_rfl) (fun x hx => by cases hx; decide) (by kernel_rfl) (by kernel_rfl))
      (SeeCode.seq rfl (SeeCode.fieldB see70 (by kernel_rfl) (fun x hx => by cases hx; decide) (by kernel_rfl) (by kernel_rfl))
      (SeeCode.fieldB see70 (by kernel_rfl) (fun x hx => by cases hx; decide) (by kernel_rfl) (by kernel_rfl))))))))))))))

theorem mark61 : MarkOK Tryd.prog 3 9 61 ((.seq (.int .u16) (.seq .str (.seq (.seq (.int .u8) (.seq (.int .u8) (.seq (.int .u8) (.seq (.seq (.int .u16) (.seq (.int .u16) (.int .u8))) (.row 5 (.int .u8)))))) (.seq (.row 5 (.int .u8)) (.seq (.int .u8) (.seq (.int .u16) (.seq (.int .u16) (.seq (.int .u8) (.seq (.seq (.int .u16) (.seq (.int .u16) (.int .u8))) (.seq (.seq (.int .u16) (.seq (.int .u16) (.int .u8))) (.seq (.seq (.int .u16) (.seq (.int .u16) (.int .u8))) (.seq (.seq (.int .u8) (.seq (.int .u8) (.seq (.int .u8) (.seq (.seq (.int .u16) (.seq (.int .u16) (.int .u8))) (.row 5 (.int .u8)))))) (.seq (.int .u8) (.seq (.int .u8) (.seq (.int .u8) (.seq (.seq (.int .u16) (.seq (.int .u16) (.int .u8))) (.row 5 (.int .u8))))))))))))))))))) :=
  MarkOK.of_code Tryd.func61 rfl Tryd.ntmps61 (by decide) rfl
    (MarkCode.seq (MarkCode.fieldB mark164 (by kernel_rfl) (fun x hx => by cases hx; decide) (by kernel_rfl) (by kernel_rfl))
      (MarkCode.seq (MarkCode.fieldB mark165 (by kernel_rfl) (fun x hx => by cases hx; decide) (by kernel_rfl) (by kernel_rfl))
      (MarkCode.seq (MarkCode.fieldB mark70 (by kernel_rfl) (fun x hx => by cases hx; decide) (by kernel_rfl) (by kernel_rfl))
      (MarkCode.seq (MarkCode.fieldB mark27 (by kernel_rfl) (fun x hx => by cases hx; decide) (by kernel_rfl) (by kernel_rfl))
      (MarkCode.seq (MarkCode.fieldB mark131 (by kernel_rfl) (fun x hx => by cases hx; decide) (by kernel_rfl) (by kernel_rfl))
      (MarkCode.seq (MarkCode.fieldB mark164 (by kernel_rfl) (fun x hx => by cases hx; decide) (by kernel_rfl) (by kernel_rfl))
      (MarkCode.seq (MarkCode.fieldB mark164 (by kernel_rfl) (fun x hx => by cases hx; decide) (by kernel_rfl) (by kernel_rfl))
      (MarkCode.seq (MarkCode.fieldB mark131 (by kernel_rfl) (fun x hx => by cases hx; decide) (by kernel_rfl) (by kernel_rfl))
      (MarkCode.seq (MarkCode.fieldB mark166 (by kernel_rfl) (fun x hx => by cases hx; decide) (by kernel_rfl) (by kernel_rfl))
      (MarkCode.seq (MarkCode.fieldB mark166 (by kernel_rfl) (fun x hx => by cases hx; decide) (by kernel_rfl) (by kernel_rfl))
      (MarkCode.seq (MarkCode.fieldB mark166 (by kernel_rfl) (fun x hx => by cases hx; decide) (by kernel_rfl) (by kernel_rfl))
      (MarkCode.seq (MarkCode.fieldB mark70 (by kernel_rfl) (fun x hx => by cases hx; decide) (by kernel_rfl) (by kernel_rfl))
      (MarkCode.fieldB mark70 (by kernel_rfl) (fun x hx => by cases hx; decide) (by kernel_rfl) (by kernel_rfl))))))))))))))

theorem see66 : SeeOK Tryd.prog 3 9 66 ((.row 5 (.int .u8))) :=
  SeeOK.of_code Tryd.func66 rfl Tryd.ntmps66 (by decide) rfl (SeeCode.handed (by kernel_rfl) (fun x hx => by cases hx; decide) Tryd.func27 (by kernel_rfl) (by kernel_rfl) see27)

theorem mark66 : MarkOK Tryd.prog 3 9 66 ((.row 5 (.int .u8))) :=
  MarkOK.of_code Tryd.func66 rfl Tryd.ntmps66 (by decide) rfl (MarkCode.handed (by kernel_rfl) (fun x hx => by cases hx; decide) Tryd.func27 (by kernel_rfl) (by kernel_rfl) mark27)

theorem see69 : SeeOK Tryd.prog 3 9 69 ((.seq (.int .u8) (.seq (.int .u8) (.seq (.int .u8) (.seq (.seq (.int .u16) (.seq (.int .u16) (.int .u8))) (.row 5 (.int .u8))))))) :=
  SeeOK.of_code Tryd.func69 rfl Tryd.ntmps69 (by decide) rfl (SeeCode.handed (by kernel_rfl) (fun x hx => by cases hx; decide) Tryd.func70 (by kernel_rfl) (by kernel_rfl) see70)

theorem mark69 : MarkOK Tryd.prog 3 9 69 ((.seq (.int .u8) (.seq (.int .u8) (.seq (.int .u8) (.seq (.seq (.int .u16) (.seq (.int .u16) (.int .u8))) (.row 5 (.int .u8))))))) :=
  MarkOK.of_code Tryd.func69 rfl Tryd.ntmps69 (by decide) rfl (MarkCode.handed (by kernel_rfl) (fun x hx => by cases hx; decide) Tryd.func70 (by kernel_rfl) (by kernel_rfl) mark70)

theorem see75 : SeeOK Tryd.prog 3 9 75 ((.seq (.int .u8) (.seq (.int .u8) (.seq (.int .u8) (.seq (.seq (.int .u16) (.seq (.int .u16) (.int .u8))) (.row 5 (.int .u8))))))) :=
  SeeOK.of_code Tryd.func75 rfl Tryd.ntmps75 (by decide) rfl (SeeCode.handed (by kernel_rfl) (fun x hx => by cases hx; decide) Tryd.func70 (by kernel_rfl) (by kernel_rfl) see70)

theorem mark75 : MarkOK Tryd.prog 3 9 75 ((.seq (.int .u8) (.seq (.int .u8) (.seq (.int .u8) (.seq (.seq (.int .u16) (.seq (.int .u16) (.int .u8))) (.row 5 (.int .u8))))))) :=
  MarkOK.of_code Tryd.func75 rfl Tryd.ntmps75 (by decide) rfl (MarkCode.handed (by kernel_rfl) (fun x hx => by cases hx; decide) Tryd.func70 (by kernel_rfl) (by kernel_rfl) mark70)

theorem room66 : Room ((.row 5 (.int .u8))) [] [] := ⟨by decide, by decide⟩

theorem clos66 : ∀ b o, ClosS Tryd.prog 3 9 ⟨66, b, o, ((.row 5 (.int .u8)))⟩ := fun b o => ⟨see66, mark66, D.okB_ok (by kernel_rfl), room66, by kernel_rfl⟩

theorem room69 : Room ((.seq (.int .u8) (.seq (.int .u8) (.seq (.int .u8) (.seq (.seq (.int .u16) (.seq (.int .u16) (.int .u8))) (.row 5 (.int .u8))))))) [] [] := ⟨by decide, by decide⟩

theorem clos69 : ∀ b o, ClosS Tryd.prog 3 9 ⟨69, b, o, ((.seq (.int .u8) (.seq (.int .u8) (.seq (.int .u8) (.seq (.seq (.int .u16) (.seq (.int .u16) (.int .u8))) (.row 5 (.int .u8)))))))⟩ := fun b o => ⟨see69, mark69, D.okB_ok (by kernel_rfl), room69, by kernel_rfl⟩

theorem room75 : Room ((.seq (.int .u8) (.seq (.int .u8) (.seq (.int .u8) (.seq (.seq (.int .u16) (.seq (.int .u16) (.int .u8))) (.row 5 (.int .u8))))))) [] [] := ⟨by decide, by decide⟩

theorem clos75 : ∀ b o, ClosS Tryd.prog 3 9 ⟨75, b, o, ((.seq (.int .u8) (.seq (.int .u8) (.seq (.int .u8) (.seq (.seq (.int .u16) (.seq (.int .u16) (.int .u8))) (.row 5 (.int .u8)))))))⟩ := fun b o => ⟨see75, mark75, D.okB_ok (by kernel_rfl), room75, by kernel_rfl⟩

theorem okT : dT.ok Tryd.prog := D.okB_ok (by kernel_rfl)

theorem roomT : Room dT [] [] := ⟨by decide, by decide⟩

end Go.Sx

namespace Go.Sx
open Go Go.Proofs

theorem copy129 : CopyRaw Tryd.prog 129 5 1 :=
  CopyRaw.of_codeB Tryd.func129 Tryd.ntmps129 rfl (by kernel_rfl) Tryd.underlying46 (by kernel_rfl) rfl

theorem own129 : OwnOK Tryd.prog 2000 129 false (.row 5 (.int .u8)) :=
  OwnOK.rowB copy129 (Nat.le_refl _) rfl (by kernel_rfl)

theorem own163 : OwnOK Tryd.prog 2000 163 true (.seq (.int .u8) (.seq (.int .u8) (.seq (.int .u8) (.seq (.seq (.int .u16) (.seq (.int .u16) (.int .u8))) (.row 5 (.int .u8)))))) := by
  refine OwnOK.of_run (T := 111) (l := [(6, (.row 5 (.int .u8)))]) Tryd.func163 Tryd.ntmps163 (by kernel_rfl) (z := (zeroAt Tryd.prog 111).getD default) (by kernel_rfl) (by kernel_rfl) rfl ?_ (by kernel_rfl) (partsB_ok (by kernel_rfl))
  refine OwnRun.cons (by unfold LB; omega) own129 (D.okB_ok (by kernel_rfl)) (by kernel_rfl) (by kernel_rfl) (by kernel_rfl) (by kernel_rfl) (by kernel_rfl) (by kernel_rfl) (by kernel_rfl) ?_
  exact OwnRun.fin rfl (by kernel_rfl) (by kernel_rfl) (by kernel_rfl)

theorem own60 : OwnOK Tryd.prog 2000 60 true dT := by
  refine OwnOK.of_run (T := 115) (l := [(2, (.seq (.int .u8) (.seq (.int .u8) (.seq (.int .u8) (.seq (.seq (.int .u16) (.seq (.int .u16) (.int .u8))) (.row 5 (.int .u8))))))), (9, (.row 5 (.int .u8))), (23, (.seq (.int .u8) (.seq (.int .u8) (.seq (.int .u8) (.seq (.seq (.int .u16) (.seq (.int .u16) (.int .u8))) (.row 5 (.int .u8))))))), (30, (.seq (.int .u8) (.seq (.int .u8) (.seq (.int .u8) (.seq (.seq (.int .u16) (.seq (.int .u16) (.int .u8))) (.row 5 (.int .u8)))))))]) Tryd.func60 Tryd.ntmps60 (by kernel_rfl) (z := (zeroAt Tryd.prog 115).getD default) (by kernel_rfl) (by kernel_rfl) rfl ?_ (by kernel_rfl) (partsB_ok (by kernel_rfl))
  refine OwnRun.cons (by unfold LB; omega) own163 (D.okB_ok (by kernel_rfl)) (by kernel_rfl) (by kernel_rfl) (by kernel_rfl) (by kernel_rfl) (by kernel_rfl) (by kernel_rfl) (by kernel_rfl) ?_
  refine OwnRun.cons (by unfold LB; omega) own129 (D.okB_ok (by kernel_rfl)) (by kernel_rfl) (by kernel_rfl) (by kernel_rfl) (by kernel_rfl) (by kernel_rfl) (by kernel_rfl) (by kernel_rfl) ?_
  refine OwnRun.cons (by unfold LB; omega) own163 (D.okB_ok (by kernel_rfl)) (by kernel_rfl) (by kernel_rfl) (by kernel_rfl) (by kernel_rfl) (by kernel_rfl) (by kernel_rfl) (by kernel_rfl) ?_
  refine OwnRun.cons (by unfold LB; omega) own163 (D.okB_ok (by kernel_rfl)) (by kernel_rfl) (by kernel_rfl) (by kernel_rfl) (by kernel_rfl) (by kernel_rfl) (by kernel_rfl) (by kernel_rfl) ?_
  exact OwnRun.fin rfl (by kernel_rfl) (by kernel_rfl) (by kernel_rfl)

end Go.Sx
