/- Part P of the proof of the law flows: helper lemmas for the proof; no conditions. -/
import Derived.Test.YtiecagflhhmfnaaDoorO
import Derived.Test.YtiecagflhhmfnaaDoorProg
import Derived.KernelRfl

namespace Go.Sx
open Go Go.Proofs

theorem build1u : Tryd.prog.underlying 32 = some (.slice 39) := Tryd.underlying32
theorem build1s : sizeAt Tryd.prog 39 = some 1 := by kernel_rfl
theorem build1z : zeroAt Tryd.prog 39 = some .nilFunc := by kernel_rfl
-- { law := 3, apart := 11, own := 12, see := 13, calls := [14], ty := 27 }
noncomputable def env0 : Env := { P := Tryd.prog }
theorem env0ok : ConOK env0 := fun f c h => nomatch h
noncomputable def con120 : Contract := conOf Tryd.prog 2000 1099511627776 false ((Tryd.prog.funcs[120]?).getD default)
theorem fn120 : FnOK Tryd.prog 120 con120 := checkFn_ok (env := env0) env0ok (fuel := 200) (vcs := [⟨[(.lt (.v 11) (.c (3))), (.le (.c (0)) (.v 11)), (.le (.v 11) (.c (2)))], (.lt (.sub (.c (3)) (.add (.v 11) (.c (1)))) (.sub (.c (3)) (.v 11)))⟩,
    ⟨[(.lt (.v 11) (.c (3))), (.le (.c (0)) (.v 11)), (.le (.v 11) (.c (2)))], (.lt (.sub (.c (3)) (.add (.v 11) (.c (1)))) (.sub (.c (3)) (.v 11)))⟩,
    ⟨[(.lt (.v 11) (.c (3))), (.le (.c (0)) (.v 11)), (.le (.v 11) (.c (2)))], (.lt (.sub (.c (3)) (.add (.v 11) (.c (1)))) (.sub (.c (3)) (.v 11)))⟩,
    ⟨[(.lt (.v 11) (.c (3))), (.le (.c (0)) (.v 11)), (.le (.v 11) (.c (2)))], (.lt (.sub (.c (3)) (.add (.v 11) (.c (1)))) (.sub (.c (3)) (.v 11)))⟩]) (by kernel_rfl)
    (valids_cons (by intro ρ h; first | (simp only [holdsAll, Fm.holds, T.ev] at h ⊢; omega) | (simp [holdsAll, Fm.holds, T.ev] at h ⊢; done) | (simp [holdsAll, Fm.holds, T.ev] at h ⊢; omega))
    (valids_cons (by intro ρ h; first | (simp only [holdsAll, Fm.holds, T.ev] at h ⊢; omega) | (simp [holdsAll, Fm.holds, T.ev] at h ⊢; done) | (simp [holdsAll, Fm.holds, T.ev] at h ⊢; omega))
    (valids_cons (by intro ρ h; first | (simp only [holdsAll, Fm.holds, T.ev] at h ⊢; omega) | (simp [holdsAll, Fm.holds, T.ev] at h ⊢; done) | (simp [holdsAll, Fm.holds, T.ev] at h ⊢; omega))
    (valids_cons (by intro ρ h; first | (simp only [holdsAll, Fm.holds, T.ev] at h ⊢; omega) | (simp [holdsAll, Fm.holds, T.ev] at h ⊢; done) | (simp [holdsAll, Fm.holds, T.ev] at h ⊢; omega))
    (valids_nil)))))
noncomputable def env120 : Env := { P := Tryd.prog, con := (120, con120) :: env0.con, inl := [] }
theorem env120ok : ConOK env120 := ConOK.cons fn120 env0ok
noncomputable def con121 : Contract := conOf Tryd.prog 2000 1099511627776 false ((Tryd.prog.funcs[121]?).getD default)
theorem fn121 : FnOK Tryd.prog 121 con121 := checkFn_ok (env := env120) env120ok (fuel := 200) (vcs := [⟨[(.lt (.v 8) (.c (3))), (.lt (.c (0)) (.v 8)), (.le (.c (1)) (.v 8)), (.le (.v 8) (.c (2)))], (.lt (.sub (.c (3)) (.add (.v 8) (.c (1)))) (.sub (.c (3)) (.v 8)))⟩]) (by kernel_rfl)
    (valids_cons (by intro ρ h; first | (simp only [holdsAll, Fm.holds, T.ev] at h ⊢; omega) | (simp [holdsAll, Fm.holds, T.ev] at h ⊢; done) | (simp [holdsAll, Fm.holds, T.ev] at h ⊢; omega))
    (valids_nil))
noncomputable def env121 : Env := { P := Tryd.prog, con := (121, con121) :: env120.con, inl := [] }
theorem env121ok : ConOK env121 := ConOK.cons fn121 env120ok
noncomputable def con15 : Contract := conOf Tryd.prog 2000 1099511627776 false ((Tryd.prog.funcs[15]?).getD default)
theorem fn15 : FnOK Tryd.prog 15 con15 := checkFn_ok (env := env121) env121ok (fuel := 200) (vcs := [⟨[(.le (.v 6) (.v 7)), (.le (.c (0)) (.v 6)), (.le (.v 6) (.c (2000))), (.le (.c (0)) (.v 7)), (.le (.v 7) (.c (9223372036854775807)))], (.le (.v 6) (.v 6))⟩,
    ⟨[(.le (.v 6) (.v 7)), (.lt (.v 13) (.v 6)), (.le (.c (1)) (.v 6)), (.le (.v 6) (.c (2000))), (.le (.c (0)) (.v 7)), (.le (.v 7) (.c (9223372036854775807))), (.le (.c (0)) (.v 13)), (.le (.v 13) (.c (1999)))], (.le (.c (1)) (.sub (.v 6) (.v 13)))⟩,
    ⟨[(.le (.v 6) (.v 7)), (.lt (.v 13) (.v 6)), (.le (.c (1)) (.v 6)), (.le (.v 6) (.c (2000))), (.le (.c (0)) (.v 7)), (.le (.v 7) (.c (9223372036854775807))), (.le (.c (0)) (.v 13)), (.le (.v 13) (.c (1999)))], (.lt (.sub (.v 6) (.add (.v 13) (.c (1)))) (.sub (.v 6) (.v 13)))⟩,
    ⟨[(.le (.v 6) (.v 7)), (.le (.v 6) (.v 13)), (.le (.c (0)) (.v 6)), (.le (.v 6) (.c (2000))), (.le (.c (0)) (.v 7)), (.le (.v 7) (.c (9223372036854775807))), (.le (.c (0)) (.v 13)), (.le (.v 13) (.c (9223372036854775807)))], (.le (.v 6) (.v 6))⟩]) (by kernel_rfl)
    (valids_cons (by intro ρ h; first | (simp only [holdsAll, Fm.holds, T.ev] at h ⊢; omega) | (simp [holdsAll, Fm.holds, T.ev] at h ⊢; done) | (simp [holdsAll, Fm.holds, T.ev] at h ⊢; omega))
    (valids_cons (by intro ρ h; first | (simp only [holdsAll, Fm.holds, T.ev] at h ⊢; omega) | (simp [holdsAll, Fm.holds, T.ev] at h ⊢; done) | (simp [holdsAll, Fm.holds, T.ev] at h ⊢; omega))
    (valids_cons (by intro ρ h; first | (simp only [holdsAll, Fm.holds, T.ev] at h ⊢; omega) | (simp [holdsAll, Fm.holds, T.ev] at h ⊢; done) | (simp [holdsAll, Fm.holds, T.ev] at h ⊢; omega))
    (valids_cons (by intro ρ h; first | (simp only [holdsAll, Fm.holds, T.ev] at h ⊢; omega) | (simp [holdsAll, Fm.holds, T.ev] at h ⊢; done) | (simp [holdsAll, Fm.holds, T.ev] at h ⊢; omega))
    (valids_nil)))))
noncomputable def env15 : Env := { P := Tryd.prog, con := (15, con15) :: env121.con, inl := [] }
theorem env15ok : ConOK env15 := ConOK.cons fn15 env121ok
noncomputable def envL : Env := { P := Tryd.prog, con := env15.con, inl := [], wa := true }
theorem envLok : ConOK envL := fun g c h => env15ok g c h
theorem call14 : CallOK Tryd.prog 3 9 2000 14 (.seq (.seq (rep (.int .i64) 3) (rep (.int .i64) 3)) (.seq (.int .i64) (.seq (.int .i64) (.row 3 (.int .i64))))) := by
  refine CallOK.one (env := envL) envLok (fuel := 200) (dr := (.row 3 (.int .i64))) (vcs := []) ?_ (valids_nil) Tryd.func14 Tryd.ntmps14 rfl (by kernel_rfl) build1u build1s build1z rfl rfl clos16
  kernel_rfl

end Go.Sx
