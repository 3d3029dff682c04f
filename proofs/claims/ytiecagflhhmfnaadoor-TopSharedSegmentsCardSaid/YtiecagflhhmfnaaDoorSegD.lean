/- Part SegD of a proof: helper lemmas; no conditions. -/
import Derived.Test.YtiecagflhhmfnaaDoorK
import Derived.Test.YtiecagflhhmfnaaDoorSegW
import Derived.Test.YtiecagflhhmfnaaDoorProg
import Derived.KernelRfl
import Derived.OwnWalk

namespace Go.Sx
open Go Go.Proofs

abbrev dT : D := (.seq (.int .u32) (.seq (.row 5 (.int .u8)) (.seq (.int .i64) (.seq (.seq (.int .u32) (.seq .bool (.seq (.int .u8) (.row 5 (.int .u8))))) (.row 5 (.int .u8))))))

theorem see27 : SeeOK Tryd.prog 3 9 27 ((.row 5 (.int .u8))) :=
  SeeOK.of_code Tryd.func27 rfl Tryd.ntmps27 (by decide) rfl
    (SeeCode.row (by kernel_rfl) (fun x hx => by cases hx; decide) (by kernel_rfl) Tryd.func130 (by kernel_rfl) (by kernel_rfl) (all130 131 _ Tryd.func131 (by kernel_rfl) (by kernel_rfl) see131))

theorem mark27 : MarkOK Tryd.prog 3 9 27 ((.row 5 (.int .u8))) :=
  MarkOK.of_code Tryd.func27 rfl Tryd.ntmps27 (by decide) rfl
    (MarkCode.row (by kernel_rfl) (fun x hx => by cases hx; decide) (by kernel_rfl) (by kernel_rfl) Tryd.func130 (by kernel_rfl) (by kernel_rfl) (allm130 131 _ Tryd.func131 (by kernel_rfl) (by kernel_rfl) mark131))

theorem see45 : SeeOK Tryd.prog 3 9 45 ((.seq (.int .u32) (.seq .bool (.seq (.int .u8) (.row 5 (.int .u8)))))) :=
  SeeOK.of_code Tryd.func45 rfl Tryd.ntmps45 (by decide) rfl
    (SeeCode.seq rfl (SeeCode.fieldB see134 (by kernel_rfl) (fun x hx => by cases hx; decide) (by kernel_rfl) (by kernel_rfl))
      (SeeCode.seq rfl (SeeCode.fieldB see140 (by kernel_rfl) (fun x hx => by cases hx; decide) (by kernel_rfl) (by kernel_rfl))
      (SeeCode.seq rfl (SeeCode.fieldB see131 (by kernel_rfl) (fun x hx => by cases hx; decide) (by kernel_rfl) (by kernel_rfl))
      (SeeCode.fieldB see27 (by kernel_rfl) (fun x hx => by cases hx; decide) (by kernel_rfl) (by kernel_rfl)))))

theorem mark45 : MarkOK Tryd.prog 3 9 45 ((.seq (.int .u32) (.seq .bool (.seq (.int .u8) (.row 5 (.int .u8)))))) :=
  MarkOK.of_code Tryd.func45 rfl Tryd.ntmps45 (by decide) rfl
    (MarkCode.seq (MarkCode.fieldB mark134 (by kernel_rfl) (fun x hx => by cases hx; decide) (by kernel_rfl) (by kernel_rfl))
      (MarkCode.seq (MarkCode.fieldB mark140 (by kernel_rfl) (fun x hx => by cases hx; decide) (by kernel_rfl) (by kernel_rfl))
      (MarkCode.seq (MarkCode.fieldB mark131 (by kernel_rfl) (fun x hx => by cases hx; decide) (by kernel_rfl) (by kernel_rfl))
      (MarkCode.fieldB mark27 (by kernel_rfl) (fun x hx => by cases hx; decide) (by kernel_rfl) (by kernel_rfl)))))

theorem see34 : SeeOK Tryd.prog 3 9 34 ((.seq (.int .u32) (.seq (.row 5 (.int .u8)) (.seq (.int .i64) (.seq (.seq (.int .u32) (.seq .bool (.seq (.int .u8) (.row 5 (.int .u8))))) (.row 5 (.int .u8))))))) :=
  SeeOK.of_code Tryd.func34 rfl Tryd.ntmps34 (by decide) rfl
    (SeeCode.seq rfl (SeeCode.fieldB see134 (by kernel_rfl) (fun x hx => by cases hx; decide) (by kernel_rfl) (by kernel_rfl))
      (SeeCode.seq rfl (SeeCode.fieldB see27 (by kernel_rfl) (fun x hx => by cases hx; decide) (by kernel_rfl) (by kernel_rfl))
      (SeeCode.seq rfl (SeeCode.fieldB see119 (by kernel_rfl) (fun x hx => by cases hx; decide) (by kernel_rfl) (by kernel_rfl))
      (SeeCode.seq rfl (SeeCode.fieldB see45 (by kernel_rfl) (fun x hx => by cases hx; decide) (by kernel_rfl) (by kernel_rfl))
      (SeeCode.fieldB see27 (by kernel_rfl) (fun x hx => by cases hx; decide) (by kernel_rfl) (by kernel_rfl))))))

theorem mark34 : MarkOK Tryd.prog 3 9 34 ((.seq (.int .u32) (.seq (.row 5 (.int .u8)) (.seq (.int .i64) (.seq (.seq (.int .u32) (.seq .bool (.seq (.int .u8) (.row 5 (.int .u8))))) (.row 5 (.int .u8))))))) :=
  MarkOK.of_code Tryd.func34 rfl Tryd.ntmps34 (by decide) rfl
    (MarkCode.seq (MarkCode.fieldB mark134 (by kernel_rfl) (fun x hx => by cases hx; decide) (by kernel_rfl) (by kernel_rfl))
      (MarkCode.seq (MarkCode.fieldB mark27 (by kernel_rfl) (fun x hx => by cases hx; decide) (by kernel_rfl) (by kernel_rfl))
      (MarkCode.seq (MarkCode.fieldB mark119 (by kernel_rfl) (fun x hx => by cases hx; decide) (by kernel_rfl) (by kernel_rfl))
      (MarkCode.seq (MarkCode.fieldB mark45 (by kernel_rfl) (fun x hx => by cases hx; decide) (by kernel_rfl) (by kernel_rfl))
      (MarkCode.fieldB mark27 (by kernel_rfl) (fun x hx => by cases hx; decide) (by kernel_rfl) (by kernel_rfl))))))

theorem see38 : SeeOK Tryd.prog 3 9 38 ((.row 68 (.seq (.int .u32) (.seq .bool (.seq (.int .u8) (.row 5 (.int .u8))))))) :=
  SeeOK.of_code Tryd.func38 rfl Tryd.ntmps38 (by decide) rfl
    (SeeCode.row (by kernel_rfl) (fun x hx => by cases hx; decide) (by kernel_rfl) Tryd.func138 (by kernel_rfl) (by kernel_rfl) (all138 45 _ Tryd.func45 (by kernel_rfl) (by kernel_rfl) see45))

theorem mark38 : MarkOK Tryd.prog 3 9 38 ((.row 68 (.seq (.int .u32) (.seq .bool (.seq (.int .u8) (.row 5 (.int .u8))))))) :=
  MarkOK.of_code Tryd.func38 rfl Tryd.ntmps38 (by decide) rfl
    (MarkCode.row (by kernel_rfl) (fun x hx => by cases hx; decide) (by kernel_rfl) (by kernel_rfl) Tryd.func138 (by kernel_rfl) (by kernel_rfl) (allm138 45 _ Tryd.func45 (by kernel_rfl) (by kernel_rfl) mark45))

theorem see37 : SeeOK Tryd.prog 3 9 37 ((.row 68 (.seq (.int .u32) (.seq .bool (.seq (.int .u8) (.row 5 (.int .u8))))))) :=
  SeeOK.of_code Tryd.func37 rfl Tryd.ntmps37 (by decide) rfl (SeeCode.handed (by kernel_rfl) (fun x hx => by cases hx; decide) Tryd.func38 (by kernel_rfl) (by kernel_rfl) see38)

theorem mark37 : MarkOK Tryd.prog 3 9 37 ((.row 68 (.seq (.int .u32) (.seq .bool (.seq (.int .u8) (.row 5 (.int .u8))))))) :=
  MarkOK.of_code Tryd.func37 rfl Tryd.ntmps37 (by decide) rfl (MarkCode.handed (by kernel_rfl) (fun x hx => by cases hx; decide) Tryd.func38 (by kernel_rfl) (by kernel_rfl) mark38)

theorem see41 : SeeOK Tryd.prog 3 9 41 ((.row 5 (.int .u8))) :=
  SeeOK.of_code Tryd.func41 rfl Tryd.ntmps41 (by decide) rfl (SeeCode.handed (by kernel_rfl) (fun x hx => by cases hx; decide) Tryd.func27 (by kernel_rfl) (by kernel_rfl) see27)

theorem mark41 : MarkOK Tryd.prog 3 9 41 ((.row 5 (.int .u8))) :=
  MarkOK.of_code Tryd.func41 rfl Tryd.ntmps41 (by decide) rfl (MarkCode.handed (by kernel_rfl) (fun x hx => by cases hx; decide) Tryd.func27 (by kernel_rfl) (by kernel_rfl) mark27)

theorem see44 : SeeOK Tryd.prog 3 9 44 ((.seq (.int .u32) (.seq .bool (.seq (.int .u8) (.row 5 (.int .u8)))))) :=
  SeeOK.of_code Tryd.func44 rfl Tryd.ntmps44 (by decide) rfl (SeeCode.handed (by kernel_rfl) (fun x hx => by cases hx; decide) Tryd.func45 (by kernel_rfl) (by kernel_rfl) see45)

theorem mark44 : MarkOK Tryd.prog 3 9 44 ((.seq (.int .u32) (.seq .bool (.seq (.int .u8) (.row 5 (.int .u8)))))) :=
  MarkOK.of_code Tryd.func44 rfl Tryd.ntmps44 (by decide) rfl (MarkCode.handed (by kernel_rfl) (fun x hx => by cases hx; decide) Tryd.func45 (by kernel_rfl) (by kernel_rfl) mark45)

theorem room37 : Room ((.row 68 (.seq (.int .u32) (.seq .bool (.seq (.int .u8) (.row 5 (.int .u8))))))) [] [] := ⟨by decide, by decide⟩

theorem clos37 : ∀ b o, ClosS Tryd.prog 3 9 ⟨37, b, o, ((.row 68 (.seq (.int .u32) (.seq .bool (.seq (.int .u8) (.row 5 (.int .u8)))))))⟩ := fun b o => ⟨see37, mark37, D.okB_ok (by kernel_rfl), room37, by kernel_rfl⟩

theorem room41 : Room ((.row 5 (.int .u8))) [] [] := ⟨by decide, by decide⟩

theorem clos41 : ∀ b o, ClosS Tryd.prog 3 9 ⟨41, b, o, ((.row 5 (.int .u8)))⟩ := fun b o => ⟨see41, mark41, D.okB_ok (by kernel_rfl), room41, by kernel_rfl⟩

theorem room44 : Room ((.seq (.int .u32) (.seq .bool (.seq (.int .u8) (.row 5 (.int .u8)))))) [] [] := ⟨by decide, by decide⟩

theorem clos44 : ∀ b o, ClosS Tryd.prog 3 9 ⟨44, b, o, ((.seq (.int .u32) (.seq .bool (.seq (.int .u8) (.row 5 (.int .u8))))))⟩ := fun b o => ⟨see44, mark44, D.okB_ok (by kernel_rfl), room44, by kernel_rfl⟩

theorem okT : dT.ok Tryd.prog := D.okB_ok (by kernel_rfl)

theorem roomT : Room dT [] [] := ⟨by decide, by decide⟩

end Go.Sx

namespace Go.Sx
open Go Go.Proofs

theorem copy129 : CopyRaw Tryd.prog 129 5 1 :=
  CopyRaw.of_codeB Tryd.func129 Tryd.ntmps129 rfl (by kernel_rfl) Tryd.underlying46 (by kernel_rfl) rfl

theorem own129 : OwnOK Tryd.prog 2000 129 false (.row 5 (.int .u8)) :=
  OwnOK.rowB copy129 (Nat.le_refl _) rfl (by kernel_rfl)

theorem own135 : OwnOK Tryd.prog 2000 135 true (.seq (.int .u32) (.seq .bool (.seq (.int .u8) (.row 5 (.int .u8))))) := by
  refine OwnOK.of_run (T := 68) (l := [(3, (.row 5 (.int .u8)))]) Tryd.func135 Tryd.ntmps135 (by kernel_rfl) (z := (zeroAt Tryd.prog 68).getD default) (by kernel_rfl) (by kernel_rfl) rfl ?_ (by kernel_rfl) (partsB_ok (by kernel_rfl))
  refine OwnRun.cons (by unfold LB; omega) own129 (D.okB_ok (by kernel_rfl)) (by kernel_rfl) (by kernel_rfl) (by kernel_rfl) (by kernel_rfl) (by kernel_rfl) (by kernel_rfl) (by kernel_rfl) ?_
  exact OwnRun.fin rfl (by kernel_rfl) (by kernel_rfl) (by kernel_rfl)

theorem own33 : OwnOK Tryd.prog 2000 33 true dT := by
  refine OwnOK.of_run (T := 70) (l := [(1, (.row 5 (.int .u8))), (3, (.seq (.int .u32) (.seq .bool (.seq (.int .u8) (.row 5 (.int .u8)))))), (7, (.row 5 (.int .u8)))]) Tryd.func33 Tryd.ntmps33 (by kernel_rfl) (z := (zeroAt Tryd.prog 70).getD default) (by kernel_rfl) (by kernel_rfl) rfl ?_ (by kernel_rfl) (partsB_ok (by kernel_rfl))
  refine OwnRun.cons (by unfold LB; omega) own129 (D.okB_ok (by kernel_rfl)) (by kernel_rfl) (by kernel_rfl) (by kernel_rfl) (by kernel_rfl) (by kernel_rfl) (by kernel_rfl) (by kernel_rfl) ?_
  refine OwnRun.cons (by unfold LB; omega) own135 (D.okB_ok (by kernel_rfl)) (by kernel_rfl) (by kernel_rfl) (by kernel_rfl) (by kernel_rfl) (by kernel_rfl) (by kernel_rfl) (by kernel_rfl) ?_
  refine OwnRun.cons (by unfold LB; omega) own129 (D.okB_ok (by kernel_rfl)) (by kernel_rfl) (by kernel_rfl) (by kernel_rfl) (by kernel_rfl) (by kernel_rfl) (by kernel_rfl) (by kernel_rfl) ?_
  exact OwnRun.fin rfl (by kernel_rfl) (by kernel_rfl) (by kernel_rfl)

end Go.Sx
