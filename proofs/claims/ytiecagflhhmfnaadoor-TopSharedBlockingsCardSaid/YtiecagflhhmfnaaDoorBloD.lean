/- Part BloD of a proof: helper lemmas; no conditions. -/
import Derived.Test.YtiecagflhhmfnaaDoorK
import Derived.Test.YtiecagflhhmfnaaDoorBloW
import Derived.Test.YtiecagflhhmfnaaDoorProg
import Derived.KernelRfl
import Derived.OwnWalk

namespace Go.Sx
open Go Go.Proofs

abbrev dT : D := (.seq (.seq (.int .u8) (.seq (.int .u32) (.seq (.int .i64) (.seq (.row 4 .bool) (.row 4 .bool))))) (.row 5 (.int .u8)))

theorem see148 : SeeOK Tryd.prog 3 9 148 ((.row 4 .bool)) :=
  SeeOK.of_code Tryd.func148 rfl Tryd.ntmps148 (by decide) rfl
    (SeeCode.row (by kernel_rfl) (fun x hx => by cases hx; decide) (by kernel_rfl) Tryd.func202 (by kernel_rfl) (by kernel_rfl) (all202 140 _ Tryd.func140 (by kernel_rfl) (by kernel_rfl) see140))

theorem mark148 : MarkOK Tryd.prog 3 9 148 ((.row 4 .bool)) :=
  MarkOK.of_code Tryd.func148 rfl Tryd.ntmps148 (by decide) rfl
    (MarkCode.row (by kernel_rfl) (fun x hx => by cases hx; decide) (by kernel_rfl) (by kernel_rfl) Tryd.func202 (by kernel_rfl) (by kernel_rfl) (allm202 140 _ Tryd.func140 (by kernel_rfl) (by kernel_rfl) mark140))

theorem see85 : SeeOK Tryd.prog 3 9 85 ((.seq (.int .u8) (.seq (.int .u32) (.seq (.int .i64) (.seq (.row 4 .bool) (.row 4 .bool)))))) :=
  SeeOK.of_code Tryd.func85 rfl Tryd.ntmps85 (by decide) rfl
    (SeeCode.seq rfl (SeeCode.fieldB see174 (by kernel_rfl) (fun x hx => by cases hx; decide) (by kernel_rfl) (by kernel_rfl))
      (SeeCode.seq rfl (SeeCode.fieldB see134 (by kernel_rfl) (fun x hx => by cases hx; decide) (by kernel_rfl) (by kernel_rfl))
      (SeeCode.seq rfl (SeeCode.fieldB see119 (by kernel_rfl) (fun x hx => by cases hx; decide) (by kernel_rfl) (by kernel_rfl))
      (SeeCode.seq rfl (SeeCode.fieldB see148 (by kernel_rfl) (fun x hx => by cases hx; decide) (by kernel_rfl) (by kernel_rfl))
      (SeeCode.fieldB see148 (by kernel_rfl) (fun x hx => by cases hx; decide) (by kernel_rfl) (by kernel_rfl))))))

theorem mark85 : MarkOK Tryd.prog 3 9 85 ((.seq (.int .u8) (.seq (.int .u32) (.seq (.int .i64) (.seq (.row 4 .bool) (.row 4 .bool)))))) :=
  MarkOK.of_code Tryd.func85 rfl Tryd.ntmps85 (by decide) rfl
    (MarkCode.seq (MarkCode.fieldB mark174 (by kernel_rfl) (fun x hx => by cases hx; decide) (by kernel_rfl) (by kernel_rfl))
      (MarkCode.seq (MarkCode.fieldB mark134 (by kernel_rfl) (fun x hx => by cases hx; decide) (by kernel_rfl) (by kernel_rfl))
      (MarkCode.seq (MarkCode.fieldB mark119 (by kernel_rfl) (fun x hx => by cases hx; decide) (by kernel_rfl) (by kernel_rfl))
      (MarkCode.seq (MarkCode.fieldB mark148 (by kernel_rfl) (fun x hx => by cases hx; decide) (by kernel_rfl) (by kernel_rfl))
      (MarkCode.fieldB mark148 (by kernel_rfl) (fun x hx => by cases hx; decide) (by kernel_rfl) (by kernel_rfl))))))

theorem see27 : SeeOK Tryd.prog 3 9 27 ((.row 5 (.int .u8))) :=
  SeeOK.of_code Tryd.func27 rfl Tryd.ntmps27 (by decide) rfl
    (SeeCode.row (by kernel_rfl) (fun x hx => by cases hx; decide) (by kernel_rfl) Tryd.func130 (by kernel_rfl) (by kernel_rfl) (all130 131 _ Tryd.func131 (by kernel_rfl) (by kernel_rfl) see131))

theorem mark27 : MarkOK Tryd.prog 3 9 27 ((.row 5 (.int .u8))) :=
  MarkOK.of_code Tryd.func27 rfl Tryd.ntmps27 (by decide) rfl
    (MarkCode.row (by kernel_rfl) (fun x hx => by cases hx; decide) (by kernel_rfl) (by kernel_rfl) Tryd.func130 (by kernel_rfl) (by kernel_rfl) (allm130 131 _ Tryd.func131 (by kernel_rfl) (by kernel_rfl) mark131))

theorem see78 : SeeOK Tryd.prog 3 9 78 ((.seq (.seq (.int .u8) (.seq (.int .u32) (.seq (.int .i64) (.seq (.row 4 .bool) (.row 4 .bool))))) (.row 5 (.int .u8)))) :=
  SeeOK.of_code Tryd.func78 rfl Tryd.ntmps78 (by decide) rfl
    (SeeCode.seq rfl (SeeCode.fieldB see85 (by kernel_rfl) (fun x hx => by cases hx; decide) (by kernel_rfl) (by kernel_rfl))
      (SeeCode.fieldB see27 (by kernel_rfl) (fun x hx => by cases hx; decide) (by kernel_rfl) (by kernel_rfl)))

theorem mark78 : MarkOK Tryd.prog 3 9 78 ((.seq (.seq (.int .u8) (.seq (.int .u32) (.seq (.int .i64) (.seq (.row 4 .bool) (.row 4 .bool))))) (.row 5 (.int .u8)))) :=
  MarkOK.of_code Tryd.func78 rfl Tryd.ntmps78 (by decide) rfl
    (MarkCode.seq (MarkCode.fieldB mark85 (by kernel_rfl) (fun x hx => by cases hx; decide) (by kernel_rfl) (by kernel_rfl))
      (MarkCode.fieldB mark27 (by kernel_rfl) (fun x hx => by cases hx; decide) (by kernel_rfl) (by kernel_rfl)))

theorem see81 : SeeOK Tryd.prog 3 9 81 ((.row 5 (.int .u8))) :=
  SeeOK.of_code Tryd.func81 rfl Tryd.ntmps81 (by decide) rfl (SeeCode.handed (by kernel_rfl) (fun x hx => by cases hx; decide) Tryd.func27 (by kernel_rfl) (by kernel_rfl) see27)

theorem mark81 : MarkOK Tryd.prog 3 9 81 ((.row 5 (.int .u8))) :=
  MarkOK.of_code Tryd.func81 rfl Tryd.ntmps81 (by decide) rfl (MarkCode.handed (by kernel_rfl) (fun x hx => by cases hx; decide) Tryd.func27 (by kernel_rfl) (by kernel_rfl) mark27)

theorem see84 : SeeOK Tryd.prog 3 9 84 ((.seq (.int .u8) (.seq (.int .u32) (.seq (.int .i64) (.seq (.row 4 .bool) (.row 4 .bool)))))) :=
  SeeOK.of_code Tryd.func84 rfl Tryd.ntmps84 (by decide) rfl (SeeCode.handed (by kernel_rfl) (fun x hx => by cases hx; decide) Tryd.func85 (by kernel_rfl) (by kernel_rfl) see85)

theorem mark84 : MarkOK Tryd.prog 3 9 84 ((.seq (.int .u8) (.seq (.int .u32) (.seq (.int .i64) (.seq (.row 4 .bool) (.row 4 .bool)))))) :=
  MarkOK.of_code Tryd.func84 rfl Tryd.ntmps84 (by decide) rfl (MarkCode.handed (by kernel_rfl) (fun x hx => by cases hx; decide) Tryd.func85 (by kernel_rfl) (by kernel_rfl) mark85)

theorem room81 : Room ((.row 5 (.int .u8))) [] [] := ⟨by decide, by decide⟩

theorem clos81 : ∀ b o, ClosS Tryd.prog 3 9 ⟨81, b, o, ((.row 5 (.int .u8)))⟩ := fun b o => ⟨see81, mark81, D.okB_ok (by kernel_rfl), room81, by kernel_rfl⟩

theorem room84 : Room ((.seq (.int .u8) (.seq (.int .u32) (.seq (.int .i64) (.seq (.row 4 .bool) (.row 4 .bool)))))) [] [] := ⟨by decide, by decide⟩

theorem clos84 : ∀ b o, ClosS Tryd.prog 3 9 ⟨84, b, o, ((.seq (.int .u8) (.seq (.int .u32) (.seq (.int .i64) (.seq (.row 4 .bool) (.row 4 .bool))))))⟩ := fun b o => ⟨see84, mark84, D.okB_ok (by kernel_rfl), room84, by kernel_rfl⟩

theorem okT : dT.ok Tryd.prog := D.okB_ok (by kernel_rfl)

theorem roomT : Room dT [] [] := ⟨by decide, by decide⟩

end Go.Sx

namespace Go.Sx
open Go Go.Proofs

theorem copy144 : CopyRaw Tryd.prog 144 4 1 :=
  CopyRaw.of_codeB Tryd.func144 Tryd.ntmps144 rfl (by kernel_rfl) Tryd.underlying91 (by kernel_rfl) rfl

theorem own144 : OwnOK Tryd.prog 2000 144 false (.row 4 .bool) :=
  OwnOK.rowB copy144 (Nat.le_refl _) rfl (by kernel_rfl)

theorem own170 : OwnOK Tryd.prog 2000 170 true (.seq (.int .u8) (.seq (.int .u32) (.seq (.int .i64) (.seq (.row 4 .bool) (.row 4 .bool))))) := by
  refine OwnOK.of_run (T := 133) (l := [(3, (.row 4 .bool)), (4, (.row 4 .bool))]) Tryd.func170 Tryd.ntmps170 (by kernel_rfl) (z := (zeroAt Tryd.prog 133).getD default) (by kernel_rfl) (by kernel_rfl) rfl ?_ (by kernel_rfl) (partsB_ok (by kernel_rfl))
  refine OwnRun.cons (by unfold LB; omega) own144 (D.okB_ok (by kernel_rfl)) (by kernel_rfl) (by kernel_rfl) (by kernel_rfl) (by kernel_rfl) (by kernel_rfl) (by kernel_rfl) (by kernel_rfl) ?_
  refine OwnRun.cons (by unfold LB; omega) own144 (D.okB_ok (by kernel_rfl)) (by kernel_rfl) (by kernel_rfl) (by kernel_rfl) (by kernel_rfl) (by kernel_rfl) (by kernel_rfl) (by kernel_rfl) ?_
  exact OwnRun.fin rfl (by kernel_rfl) (by kernel_rfl) (by kernel_rfl)

theorem copy129 : CopyRaw Tryd.prog 129 5 1 :=
  CopyRaw.of_codeB Tryd.func129 Tryd.ntmps129 rfl (by kernel_rfl) Tryd.underlying46 (by kernel_rfl) rfl

theorem own129 : OwnOK Tryd.prog 2000 129 false (.row 5 (.int .u8)) :=
  OwnOK.rowB copy129 (Nat.le_refl _) rfl (by kernel_rfl)

theorem own77 : OwnOK Tryd.prog 2000 77 true dT := by
  refine OwnOK.of_run (T := 135) (l := [(0, (.seq (.int .u8) (.seq (.int .u32) (.seq (.int .i64) (.seq (.row 4 .bool) (.row 4 .bool)))))), (5, (.row 5 (.int .u8)))]) Tryd.func77 Tryd.ntmps77 (by kernel_rfl) (z := (zeroAt Tryd.prog 135).getD default) (by kernel_rfl) (by kernel_rfl) rfl ?_ (by kernel_rfl) (partsB_ok (by kernel_rfl))
  refine OwnRun.cons (by unfold LB; omega) own170 (D.okB_ok (by kernel_rfl)) (by kernel_rfl) (by kernel_rfl) (by kernel_rfl) (by kernel_rfl) (by kernel_rfl) (by kernel_rfl) (by kernel_rfl) ?_
  refine OwnRun.cons (by unfold LB; omega) own129 (D.okB_ok (by kernel_rfl)) (by kernel_rfl) (by kernel_rfl) (by kernel_rfl) (by kernel_rfl) (by kernel_rfl) (by kernel_rfl) (by kernel_rfl) ?_
  exact OwnRun.fin rfl (by kernel_rfl) (by kernel_rfl) (by kernel_rfl)

end Go.Sx
