/- Part ConC of the proof of the law connections: helper lemmas for the proof; no conditions. -/
import Derived.Test.YtiecagflhhmfnaaDoorJ
import Derived.Test.YtiecagflhhmfnaaDoorConD
import Derived.Test.YtiecagflhhmfnaaDoorProg
import Derived.KernelRfl

namespace Go.Sx
open Go Go.Proofs

theorem build1u : Tryd.prog.underlying 32 = some (.slice 39) := Tryd.underlying32
theorem build1s : sizeAt Tryd.prog 39 = some 1 := by kernel_rfl
theorem build1z : zeroAt Tryd.prog 39 = some .nilFunc := by kernel_rfl
-- { law := 4, apart := 19, own := 20, see := 21, calls := [22, 24, 28], ty := 50 }
noncomputable def env0 : Env := { P := Tryd.prog }
theorem env0ok : ConOK env0 := fun _ _ h => nomatch h
noncomputable def con23 : Contract := conOf Tryd.prog 2000 2000 false ((Tryd.prog.funcs[23]?).getD default)
theorem fn23 : FnOK Tryd.prog 23 con23 := checkFn_ok (env := env0) env0ok (fuel := 200) (vcs := []) (by kernel_rfl)
    (valids_nil)
noncomputable def env23 : Env := { P := Tryd.prog, con := (23, con23) :: env0.con, inl := [] }
theorem env23ok : ConOK env23 := ConOK.cons fn23 env0ok
noncomputable def con25 : Contract := conOf Tryd.prog 2000 2064 false ((Tryd.prog.funcs[25]?).getD default)
theorem fn25 : FnOK Tryd.prog 25 con25 := checkFn_ok (env := env23) env23ok (fuel := 200) (vcs := []) (by kernel_rfl)
    (valids_nil)
noncomputable def env25 : Env := { P := Tryd.prog, con := (25, con25) :: env23.con, inl := [] }
theorem env25ok : ConOK env25 := ConOK.cons fn25 env23ok
noncomputable def con181 : Contract := conOf Tryd.prog 2000 2000 false ((Tryd.prog.funcs[181]?).getD default)
theorem fn181 : FnOK Tryd.prog 181 con181 := checkFn_ok (env := env25) env25ok (fuel := 200) (vcs := []) (by kernel_rfl)
    (valids_nil)
noncomputable def env181 : Env := { P := Tryd.prog, con := (181, con181) :: env25.con, inl := [] }
theorem env181ok : ConOK env181 := ConOK.cons fn181 env25ok
noncomputable def con136 : Contract := conOf Tryd.prog 2000 2000 true ((Tryd.prog.funcs[136]?).getD default)
theorem fn136 : FnOK Tryd.prog 136 con136 := checkFn_ok (env := env181) env181ok (fuel := 200) (vcs := [⟨[(.le (.v 0) (.v 1)), (.le (.c (0)) (.v 0)), (.le (.v 0) (.c (2000))), (.le (.c (0)) (.v 1)), (.le (.v 1) (.c (9223372036854775807)))], (.le (.v 0) (.v 0))⟩,
    ⟨[(.le (.v 0) (.v 1)), (.le (.c (0)) (.v 0)), (.le (.v 0) (.c (2000))), (.le (.c (0)) (.v 1)), (.le (.v 1) (.c (9223372036854775807)))], (.le (.v 0) (.v 0))⟩]) (by kernel_rfl)
    (valids_cons (by intro ρ h; first | (simp only [holdsAll, Fm.holds, T.ev] at h ⊢; omega) | (simp [holdsAll, Fm.holds, T.ev] at h ⊢; done) | (simp [holdsAll, Fm.holds, T.ev] at h ⊢; omega))
    (valids_cons (by intro ρ h; first | (simp only [holdsAll, Fm.holds, T.ev] at h ⊢; omega) | (simp [holdsAll, Fm.holds, T.ev] at h ⊢; done) | (simp [holdsAll, Fm.holds, T.ev] at h ⊢; omega))
    (valids_nil)))
noncomputable def env136 : Env := { P := Tryd.prog, con := (136, con136) :: env181.con, inl := [] }
theorem env136ok : ConOK env136 := ConOK.cons fn136 env181ok
noncomputable def con132 : Contract := conOf Tryd.prog 2000 2000 false ((Tryd.prog.funcs[132]?).getD default)
theorem fn132 : FnOK Tryd.prog 132 con132 := checkFn_ok (env := env136) env136ok (fuel := 200) (vcs := []) (by kernel_rfl)
    (valids_nil)
noncomputable def env132 : Env := { P := Tryd.prog, con := (132, con132) :: env136.con, inl := [] }
theorem env132ok : ConOK env132 := ConOK.cons fn132 env136ok
noncomputable def con29 : Contract := conOf Tryd.prog 2000 2000 false ((Tryd.prog.funcs[29]?).getD default)
theorem fn29 : FnOK Tryd.prog 29 con29 := checkFn_ok (env := env132) env132ok (fuel := 200) (vcs := [⟨[(.le (.v 0) (.v 1)), (.le (.c (9)) (.v 0)), (.le (.c (9)) (.v 0)), (.le (.v 0) (.c (2000))), (.le (.c (0)) (.v 1)), (.le (.v 1) (.c (9223372036854775807)))], (.le (.c (0)) (.add (.v 1) (.c (-9))))⟩,
    ⟨[(.le (.v 0) (.v 1)), (.le (.c (9)) (.v 0)), (.le (.c (9)) (.v 0)), (.le (.v 0) (.c (2000))), (.le (.c (0)) (.v 1)), (.le (.v 1) (.c (9223372036854775807)))], (.le (.add (.v 0) (.c (-9))) (.add (.v 1) (.c (-9))))⟩]) (by kernel_rfl)
    (valids_cons (by intro ρ h; first | (simp only [holdsAll, Fm.holds, T.ev] at h ⊢; omega) | (simp [holdsAll, Fm.holds, T.ev] at h ⊢; done) | (simp [holdsAll, Fm.holds, T.ev] at h ⊢; omega))
    (valids_cons (by intro ρ h; first | (simp only [holdsAll, Fm.holds, T.ev] at h ⊢; omega) | (simp [holdsAll, Fm.holds, T.ev] at h ⊢; done) | (simp [holdsAll, Fm.holds, T.ev] at h ⊢; omega))
    (valids_nil)))
noncomputable def env29 : Env := { P := Tryd.prog, con := (29, con29) :: env132.con, inl := [] }
theorem env29ok : ConOK env29 := ConOK.cons fn29 env132ok
noncomputable def envL : Env := { P := Tryd.prog, con := env29.con, inl := [], wa := true }
theorem envLok : ConOK envL := fun g c h => env29ok g c h
theorem call22 : CallOK Tryd.prog 3 9 2000 22 (.seq (.seq (.int .u8) (.seq (.int .u32) (.seq (.int .u32) (.seq (.int .u8) (.seq (.int .u8) (.seq (.int .u8) (.seq (.int .u8) (.row 5 (.int .u8))))))))) (.row 5 (.int .u8))) := by
  refine CallOK.nil (env := envL) envLok (fuel := 200) (vcs := []) ?_ (valids_nil) Tryd.func22 Tryd.ntmps22 rfl (by kernel_rfl) rfl
  kernel_rfl
theorem call24 : CallOK Tryd.prog 3 9 2000 24 (.seq (.seq (.int .u8) (.seq (.int .u32) (.seq (.int .u32) (.seq (.int .u8) (.seq (.int .u8) (.seq (.int .u8) (.seq (.int .u8) (.row 5 (.int .u8))))))))) (.row 5 (.int .u8))) := by
  refine CallOK.one (env := envL) envLok (fuel := 200) (dr := (.row 5 (.int .u8))) (vcs := []) ?_ (valids_nil) Tryd.func24 Tryd.ntmps24 rfl (by kernel_rfl) build1u build1s build1z rfl rfl clos26
  kernel_rfl
theorem call28 : CallOK Tryd.prog 3 9 2000 28 (.seq (.seq (.int .u8) (.seq (.int .u32) (.seq (.int .u32) (.seq (.int .u8) (.seq (.int .u8) (.seq (.int .u8) (.seq (.int .u8) (.row 5 (.int .u8))))))))) (.row 5 (.int .u8))) := by
  refine CallOK.one (env := envL) envLok (fuel := 200) (dr := (.seq (.int .u8) (.seq (.int .u32) (.seq (.int .u32) (.seq (.int .u8) (.seq (.int .u8) (.seq (.int .u8) (.seq (.int .u8) (.row 5 (.int .u8)))))))))) (vcs := []) ?_ (valids_nil) Tryd.func28 Tryd.ntmps28 rfl (by kernel_rfl) build1u build1s build1z rfl rfl clos30
  kernel_rfl

end Go.Sx
