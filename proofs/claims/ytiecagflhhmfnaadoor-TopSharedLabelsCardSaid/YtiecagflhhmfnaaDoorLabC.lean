/- Part LabC of a proof: helper lemmas; no conditions. -/
import Derived.Test.YtiecagflhhmfnaaDoorL
import Derived.Test.YtiecagflhhmfnaaDoorLabD
import Derived.Test.YtiecagflhhmfnaaDoorProg
import Derived.KernelRfl

namespace Go.Sx
open Go Go.Proofs

theorem build1u : Tryd.prog.underlying 32 = some (.slice 39) := Tryd.underlying32
theorem build1s : sizeAt Tryd.prog 39 = some 1 := by kernel_rfl
theorem build1z : zeroAt Tryd.prog 39 = some .nilFunc := by kernel_rfl
-- { law := 7, apart := 59, own := 60, see := 61, calls := [62, 64, 67, 71, 73], ty := 115 }
def anns : List (Nat × Nat × LoopAnn) := [(65, 0, { ivs := [], facts := [(.le (.v 1005) (.add (.v 7) (.c (8)))), (.le (.v 7) (.c (39)))], meas := none, keep := [] })]
noncomputable def env0 : Env := { P := Tryd.prog, ann := anns }
theorem env0ok : ConOK env0 := fun _ _ h => nomatch h
noncomputable def con63 : Contract := conOf Tryd.prog 2000 2000 false ((Tryd.prog.funcs[63]?).getD default)
theorem fn63 : FnOK Tryd.prog 63 con63 := checkFn_ok (env := env0) env0ok (fuel := 200) (vcs := []) (by kernel_rfl)
    (valids_nil)
noncomputable def env63 : Env := { P := Tryd.prog, con := (63, con63) :: env0.con, inl := [], ann := anns }
theorem env63ok : ConOK env63 := ConOK.cons fn63 env0ok
noncomputable def con65 : Contract := conOf Tryd.prog 2000 2064 false ((Tryd.prog.funcs[65]?).getD default)
theorem fn65 : FnOK Tryd.prog 65 con65 := checkFn_ok (env := env63) env63ok (fuel := 200) (vcs := [⟨[(.le (.v 16) (.v 17)), (.le (.v 16) (.add (.v 18) (.c (8)))), (.le (.v 18) (.c (39))), (.lt (.v 18) (.c (32))), (.le (.add (.v 16) (.c (1))) (.v 21)), (.le (.c (0)) (.v 16)), (.le (.v 16) (.c (1099511627776))), (.le (.c (0)) (.v 17)), (.le (.v 17) (.c (9223372036854775807))), (.le (.c (0)) (.v 18)), (.le (.v 18) (.c (31))), (.le (.c (0)) (.v 21)), (.le (.v 21) (.c (9223372036854775807)))], (.le (.add (.v 16) (.c (1))) (.add (.add (.v 18) (.c (8))) (.c (8))))⟩,
    ⟨[(.le (.v 16) (.v 17)), (.le (.v 16) (.add (.v 18) (.c (8)))), (.le (.v 18) (.c (39))), (.lt (.v 18) (.c (32))), (.le (.add (.v 16) (.c (1))) (.v 21)), (.le (.c (0)) (.v 16)), (.le (.v 16) (.c (1099511627776))), (.le (.c (0)) (.v 17)), (.le (.v 17) (.c (9223372036854775807))), (.le (.c (0)) (.v 18)), (.le (.v 18) (.c (31))), (.le (.c (0)) (.v 21)), (.le (.v 21) (.c (9223372036854775807)))], (.le (.add (.v 16) (.c (1))) (.c (1099511627776)))⟩,
    ⟨[(.le (.v 16) (.v 17)), (.le (.v 16) (.add (.v 18) (.c (8)))), (.le (.v 18) (.c (39))), (.lt (.v 18) (.c (32))), (.le (.add (.v 16) (.c (1))) (.v 21)), (.le (.c (0)) (.v 16)), (.le (.v 16) (.c (1099511627776))), (.le (.c (0)) (.v 17)), (.le (.v 17) (.c (9223372036854775807))), (.le (.c (0)) (.v 18)), (.le (.v 18) (.c (31))), (.le (.c (0)) (.v 21)), (.le (.v 21) (.c (9223372036854775807)))], (.lt (.sub (.c (32)) (.add (.v 18) (.c (8)))) (.sub (.c (32)) (.v 18)))⟩,
    ⟨[(.le (.v 6) (.v 7)), (.le (.v 16) (.v 17)), (.le (.v 16) (.add (.v 18) (.c (8)))), (.le (.v 18) (.c (39))), (.le (.c (32)) (.v 18)), (.le (.add (.v 16) (.v 6)) (.v 19)), (.le (.c (0)) (.v 6)), (.le (.v 6) (.c (2000))), (.le (.c (0)) (.v 7)), (.le (.v 7) (.c (9223372036854775807))), (.le (.c (0)) (.v 16)), (.le (.v 16) (.c (1099511627776))), (.le (.c (0)) (.v 17)), (.le (.v 17) (.c (9223372036854775807))), (.le (.c (32)) (.v 18)), (.le (.v 18) (.c (39))), (.le (.c (0)) (.v 19)), (.le (.v 19) (.c (9223372036854775807)))], (.le (.add (.v 16) (.v 6)) (.c (2064)))⟩]) (by kernel_rfl)
    (valids_cons (by intro ρ h; first | (simp only [holdsAll, Fm.holds, T.ev] at h ⊢; omega) | (simp [holdsAll, Fm.holds, T.ev] at h ⊢; done) | (simp [holdsAll, Fm.holds, T.ev] at h ⊢; omega))
    (valids_cons (by intro ρ h; first | (simp only [holdsAll, Fm.holds, T.ev] at h ⊢; omega) | (simp [holdsAll, Fm.holds, T.ev] at h ⊢; done) | (simp [holdsAll, Fm.holds, T.ev] at h ⊢; omega))
    (valids_cons (by intro ρ h; first | (simp only [holdsAll, Fm.holds, T.ev] at h ⊢; omega) | (simp [holdsAll, Fm.holds, T.ev] at h ⊢; done) | (simp [holdsAll, Fm.holds, T.ev] at h ⊢; omega))
    (valids_cons (by intro ρ h; first | (simp only [holdsAll, Fm.holds, T.ev] at h ⊢; omega) | (simp [holdsAll, Fm.holds, T.ev] at h ⊢; done) | (simp [holdsAll, Fm.holds, T.ev] at h ⊢; omega))
    (valids_nil)))))
noncomputable def env65 : Env := { P := Tryd.prog, con := (65, con65) :: env63.con, inl := [], ann := anns }
theorem env65ok : ConOK env65 := ConOK.cons fn65 env63ok
noncomputable def con181 : Contract := conOf Tryd.prog 2000 2000 false ((Tryd.prog.funcs[181]?).getD default)
theorem fn181 : FnOK Tryd.prog 181 con181 := checkFn_ok (env := env65) env65ok (fuel := 200) (vcs := []) (by kernel_rfl)
    (valids_nil)
noncomputable def env181 : Env := { P := Tryd.prog, con := (181, con181) :: env65.con, inl := [], ann := anns }
theorem env181ok : ConOK env181 := ConOK.cons fn181 env65ok
noncomputable def con136 : Contract := conOf Tryd.prog 2000 2000 true ((Tryd.prog.funcs[136]?).getD default)
theorem fn136 : FnOK Tryd.prog 136 con136 := checkFn_ok (env := env181) env181ok (fuel := 200) (vcs := [⟨[(.le (.v 0) (.v 1)), (.le (.c (0)) (.v 0)), (.le (.v 0) (.c (2000))), (.le (.c (0)) (.v 1)), (.le (.v 1) (.c (9223372036854775807)))], (.le (.v 0) (.v 0))⟩,
    ⟨[(.le (.v 0) (.v 1)), (.le (.c (0)) (.v 0)), (.le (.v 0) (.c (2000))), (.le (.c (0)) (.v 1)), (.le (.v 1) (.c (9223372036854775807)))], (.le (.v 0) (.v 0))⟩]) (by kernel_rfl)
    (valids_cons (by intro ρ h; first | (simp only [holdsAll, Fm.holds, T.ev] at h ⊢; omega) | (simp [holdsAll, Fm.holds, T.ev] at h ⊢; done) | (simp [holdsAll, Fm.holds, T.ev] at h ⊢; omega))
    (valids_cons (by intro ρ h; first | (simp only [holdsAll, Fm.holds, T.ev] at h ⊢; omega) | (simp [holdsAll, Fm.holds, T.ev] at h ⊢; done) | (simp [holdsAll, Fm.holds, T.ev] at h ⊢; omega))
    (valids_nil)))
noncomputable def env136 : Env := { P := Tryd.prog, con := (136, con136) :: env181.con, inl := [], ann := anns }
theorem env136ok : ConOK env136 := ConOK.cons fn136 env181ok
noncomputable def con167 : Contract := conOf Tryd.prog 2000 2000 false ((Tryd.prog.funcs[167]?).getD default)
theorem fn167 : FnOK Tryd.prog 167 con167 := checkFn_ok (env := env136) env136ok (fuel := 200) (vcs := []) (by kernel_rfl)
    (valids_nil)
noncomputable def env167 : Env := { P := Tryd.prog, con := (167, con167) :: env136.con, inl := [], ann := anns }
theorem env167ok : ConOK env167 := ConOK.cons fn167 env136ok
noncomputable def con68 : Contract := conOf Tryd.prog 2000 2000 false ((Tryd.prog.funcs[68]?).getD default)
theorem fn68 : FnOK Tryd.prog 68 con68 := checkFn_ok (env := env167) env167ok (fuel := 200) (vcs := [⟨[(.lt (.v 4) (.c (4))), (.le (.c (0)) (.v 4)), (.le (.v 4) (.c (3)))], (.lt (.sub (.c (4)) (.add (.v 4) (.c (1)))) (.sub (.c (4)) (.v 4)))⟩,
    ⟨[(.le (.v 0) (.v 1)), (.le (.c (5)) (.v 0)), (.le (.v 0) (.c (273))), (.le (.c (5)) (.v 0)), (.le (.v 0) (.c (273))), (.le (.c (0)) (.v 1)), (.le (.v 1) (.c (9223372036854775807)))], (.le (.c (0)) (.add (.v 1) (.c (-5))))⟩,
    ⟨[(.le (.v 0) (.v 1)), (.le (.c (5)) (.v 0)), (.le (.v 0) (.c (273))), (.le (.c (5)) (.v 0)), (.le (.v 0) (.c (273))), (.le (.c (0)) (.v 1)), (.le (.v 1) (.c (9223372036854775807)))], (.le (.add (.v 0) (.c (-5))) (.add (.v 1) (.c (-5))))⟩]) (by kernel_rfl)
    (valids_cons (by intro ρ h; first | (simp only [holdsAll, Fm.holds, T.ev] at h ⊢; omega) | (simp [holdsAll, Fm.holds, T.ev] at h ⊢; done) | (simp [holdsAll, Fm.holds, T.ev] at h ⊢; omega))
    (valids_cons (by intro ρ h; first | (simp only [holdsAll, Fm.holds, T.ev] at h ⊢; omega) | (simp [holdsAll, Fm.holds, T.ev] at h ⊢; done) | (simp [holdsAll, Fm.holds, T.ev] at h ⊢; omega))
    (valids_cons (by intro ρ h; first | (simp only [holdsAll, Fm.holds, T.ev] at h ⊢; omega) | (simp [holdsAll, Fm.holds, T.ev] at h ⊢; done) | (simp [holdsAll, Fm.holds, T.ev] at h ⊢; omega))
    (valids_nil))))
noncomputable def env68 : Env := { P := Tryd.prog, con := (68, con68) :: env167.con, inl := [], ann := anns }
theorem env68ok : ConOK env68 := ConOK.cons fn68 env167ok
noncomputable def con169 : Contract := conOf Tryd.prog 2000 2000 false ((Tryd.prog.funcs[169]?).getD default)
theorem fn169 : FnOK Tryd.prog 169 con169 := checkFn_ok (env := env68) env68ok (fuel := 200) (vcs := [⟨[(.le (.v 0) (.v 1)), (.le (.v 2) (.v 3)), (.eq (.v 0) (.v 2)), (.lt (.v 5) (.v 0)), (.le (.c (1)) (.v 0)), (.le (.v 0) (.c (2000))), (.le (.c (0)) (.v 1)), (.le (.v 1) (.c (9223372036854775807))), (.le (.c (0)) (.v 2)), (.le (.v 2) (.c (2000))), (.le (.c (0)) (.v 3)), (.le (.v 3) (.c (9223372036854775807))), (.le (.c (0)) (.v 5)), (.le (.v 5) (.c (1999)))], (.lt (.v 5) (.v 2))⟩,
    ⟨[(.le (.v 0) (.v 1)), (.le (.v 2) (.v 3)), (.eq (.v 0) (.v 2)), (.lt (.v 5) (.v 0)), (.le (.c (1)) (.v 0)), (.le (.v 0) (.c (2000))), (.le (.c (0)) (.v 1)), (.le (.v 1) (.c (9223372036854775807))), (.le (.c (0)) (.v 2)), (.le (.v 2) (.c (2000))), (.le (.c (0)) (.v 3)), (.le (.v 3) (.c (9223372036854775807))), (.le (.c (0)) (.v 5)), (.le (.v 5) (.c (1999)))], (.le (.c (1)) (.sub (.v 0) (.v 5)))⟩,
    ⟨[(.le (.v 0) (.v 1)), (.le (.v 2) (.v 3)), (.eq (.v 0) (.v 2)), (.lt (.v 5) (.v 0)), (.le (.c (1)) (.v 0)), (.le (.v 0) (.c (2000))), (.le (.c (0)) (.v 1)), (.le (.v 1) (.c (9223372036854775807))), (.le (.c (0)) (.v 2)), (.le (.v 2) (.c (2000))), (.le (.c (0)) (.v 3)), (.le (.v 3) (.c (9223372036854775807))), (.le (.c (0)) (.v 5)), (.le (.v 5) (.c (1999)))], (.lt (.sub (.v 0) (.add (.v 5) (.c (1)))) (.sub (.v 0) (.v 5)))⟩]) (by kernel_rfl)
    (valids_cons (by intro ρ h; first | (simp only [holdsAll, Fm.holds, T.ev] at h ⊢; omega) | (simp [holdsAll, Fm.holds, T.ev] at h ⊢; done) | (simp [holdsAll, Fm.holds, T.ev] at h ⊢; omega))
    (valids_cons (by intro ρ h; first | (simp only [holdsAll, Fm.holds, T.ev] at h ⊢; omega) | (simp [holdsAll, Fm.holds, T.ev] at h ⊢; done) | (simp [holdsAll, Fm.holds, T.ev] at h ⊢; omega))
    (valids_cons (by intro ρ h; first | (simp only [holdsAll, Fm.holds, T.ev] at h ⊢; omega) | (simp [holdsAll, Fm.holds, T.ev] at h ⊢; done) | (simp [holdsAll, Fm.holds, T.ev] at h ⊢; omega))
    (valids_nil))))
noncomputable def env169 : Env := { P := Tryd.prog, con := (169, con169) :: env68.con, inl := [], ann := anns }
theorem env169ok : ConOK env169 := ConOK.cons fn169 env68ok
noncomputable def con72 : Contract := conOf Tryd.prog 2000 2000 false ((Tryd.prog.funcs[72]?).getD default)
theorem fn72 : FnOK Tryd.prog 72 con72 := checkFn_ok (env := env169) env169ok (fuel := 200) (vcs := []) (by kernel_rfl)
    (valids_nil)
noncomputable def env72 : Env := { P := Tryd.prog, con := (72, con72) :: env169.con, inl := [], ann := anns }
theorem env72ok : ConOK env72 := ConOK.cons fn72 env169ok
noncomputable def con74 : Contract := conOf Tryd.prog 2000 2000 false ((Tryd.prog.funcs[74]?).getD default)
theorem fn74 : FnOK Tryd.prog 74 con74 := checkFn_ok (env := env72) env72ok (fuel := 200) (vcs := []) (by kernel_rfl)
    (valids_nil)
noncomputable def env74 : Env := { P := Tryd.prog, con := (74, con74) :: env72.con, inl := [], ann := anns }
theorem env74ok : ConOK env74 := ConOK.cons fn74 env72ok
noncomputable def envL : Env := { P := Tryd.prog, con := env74.con, inl := [], ann := anns, wa := true }
theorem envLok : ConOK envL := fun g c h => env74ok g c h
theorem call62 : CallOK Tryd.prog 3 9 2000 62 (.seq (.int .u16) (.seq .str (.seq (.seq (.int .u8) (.seq (.int .u8) (.seq (.int .u8) (.seq (.seq (.int .u16) (.seq (.int .u16) (.int .u8))) (.row 5 (.int .u8)))))) (.seq (.row 5 (.int .u8)) (.seq (.int .u8) (.seq (.int .u16) (.seq (.int .u16) (.seq (.int .u8) (.seq (.seq (.int .u16) (.seq (.int .u16) (.int .u8))) (.seq (.seq (.int .u16) (.seq (.int .u16) (.int .u8))) (.seq (.seq (.int .u16) (.seq (.int .u16) (.int .u8))) (.seq (.seq (.int .u8) (.seq (.int .u8) (.seq (.int .u8) (.seq (.seq (.int .u16) (.seq (.int .u16) (.int .u8))) (.row 5 (.int .u8)))))) (.seq (.int .u8) (.seq (.int .u8) (.seq (.int .u8) (.seq (.seq (.int .u16) (.seq (.int .u16) (.int .u8))) (.row 5 (.int .u8)))))))))))))))))) := by
  refine CallOK.nil (env := envL) envLok (fuel := 200) (vcs := []) ?_ (valids_nil) Tryd.func62 Tryd.ntmps62 rfl (by kernel_rfl) rfl
  kernel_rfl
theorem call64 : CallOK Tryd.prog 3 9 2000 64 (.seq (.int .u16) (.seq .str (.seq (.seq (.int .u8) (.seq (.int .u8) (.seq (.int .u8) (.seq (.seq (.int .u16) (.seq (.int .u16) (.int .u8))) (.row 5 (.int .u8)))))) (.seq (.row 5 (.int .u8)) (.seq (.int .u8) (.seq (.int .u16) (.seq (.int .u16) (.seq (.int .u8) (.seq (.seq (.int .u16) (.seq (.int .u16) (.int .u8))) (.seq (.seq (.int .u16) (.seq (.int .u16) (.int .u8))) (.seq (.seq (.int .u16) (.seq (.int .u16) (.int .u8))) (.seq (.seq (.int .u8) (.seq (.int .u8) (.seq (.int .u8) (.seq (.seq (.int .u16) (.seq (.int .u16) (.int .u8))) (.row 5 (.int .u8)))))) (.seq (.int .u8) (.seq (.int .u8) (.seq (.int .u8) (.seq (.seq (.int .u16) (.seq (.int .u16) (.int .u8))) (.row 5 (.int .u8)))))))))))))))))) := by
  refine CallOK.one (env := envL) envLok (fuel := 200) (dr := (.row 5 (.int .u8))) (vcs := []) ?_ (valids_nil) Tryd.func64 Tryd.ntmps64 rfl (by kernel_rfl) build1u build1s build1z rfl rfl clos66
  kernel_rfl
theorem call67 : CallOK Tryd.prog 3 9 2000 67 (.seq (.int .u16) (.seq .str (.seq (.seq (.int .u8) (.seq (.int .u8) (.seq (.int .u8) (.seq (.seq (.int .u16) (.seq (.int .u16) (.int .u8))) (.row 5 (.int .u8)))))) (.seq (.row 5 (.int .u8)) (.seq (.int .u8) (.seq (.int .u16) (.seq (.int .u16) (.seq (.int .u8) (.seq (.seq (.int .u16) (.seq (.int .u16) (.int .u8))) (.seq (.seq (.int .u16) (.seq (.int .u16) (.int .u8))) (.seq (.seq (.int .u16) (.seq (.int .u16) (.int .u8))) (.seq (.seq (.int .u8) (.seq (.int .u8) (.seq (.int .u8) (.seq (.seq (.int .u16) (.seq (.int .u16) (.int .u8))) (.row 5 (.int .u8)))))) (.seq (.int .u8) (.seq (.int .u8) (.seq (.int .u8) (.seq (.seq (.int .u16) (.seq (.int .u16) (.int .u8))) (.row 5 (.int .u8)))))))))))))))))) := by
  refine CallOK.one (env := envL) envLok (fuel := 200) (dr := (.seq (.int .u8) (.seq (.int .u8) (.seq (.int .u8) (.seq (.seq (.int .u16) (.seq (.int .u16) (.int .u8))) (.row 5 (.int .u8))))))) (vcs := []) ?_ (valids_nil) Tryd.func67 Tryd.ntmps67 rfl (by kernel_rfl) build1u build1s build1z rfl rfl clos69
  kernel_rfl
theorem call71 : CallOK Tryd.prog 3 9 2000 71 (.seq (.int .u16) (.seq .str (.seq (.seq (.int .u8) (.seq (.int .u8) (.seq (.int .u8) (.seq (.seq (.int .u16) (.seq (.int .u16) (.int .u8))) (.row 5 (.int .u8)))))) (.seq (.row 5 (.int .u8)) (.seq (.int .u8) (.seq (.int .u16) (.seq (.int .u16) (.seq (.int .u8) (.seq (.seq (.int .u16) (.seq (.int .u16) (.int .u8))) (.seq (.seq (.int .u16) (.seq (.int .u16) (.int .u8))) (.seq (.seq (.int .u16) (.seq (.int .u16) (.int .u8))) (.seq (.seq (.int .u8) (.seq (.int .u8) (.seq (.int .u8) (.seq (.seq (.int .u16) (.seq (.int .u16) (.int .u8))) (.row 5 (.int .u8)))))) (.seq (.int .u8) (.seq (.int .u8) (.seq (.int .u8) (.seq (.seq (.int .u16) (.seq (.int .u16) (.int .u8))) (.row 5 (.int .u8)))))))))))))))))) := by
  refine CallOK.nil (env := envL) envLok (fuel := 200) (vcs := []) ?_ (valids_nil) Tryd.func71 Tryd.ntmps71 rfl (by kernel_rfl) rfl
  kernel_rfl
theorem call73 : CallOK Tryd.prog 3 9 2000 73 (.seq (.int .u16) (.seq .str (.seq (.seq (.int .u8) (.seq (.int .u8) (.seq (.int .u8) (.seq (.seq (.int .u16) (.seq (.int .u16) (.int .u8))) (.row 5 (.int .u8)))))) (.seq (.row 5 (.int .u8)) (.seq (.int .u8) (.seq (.int .u16) (.seq (.int .u16) (.seq (.int .u8) (.seq (.seq (.int .u16) (.seq (.int .u16) (.int .u8))) (.seq (.seq (.int .u16) (.seq (.int .u16) (.int .u8))) (.seq (.seq (.int .u16) (.seq (.int .u16) (.int .u8))) (.seq (.seq (.int .u8) (.seq (.int .u8) (.seq (.int .u8) (.seq (.seq (.int .u16) (.seq (.int .u16) (.int .u8))) (.row 5 (.int .u8)))))) (.seq (.int .u8) (.seq (.int .u8) (.seq (.int .u8) (.seq (.seq (.int .u16) (.seq (.int .u16) (.int .u8))) (.row 5 (.int .u8)))))))))))))))))) := by
  refine CallOK.one (env := envL) envLok (fuel := 200) (dr := (.seq (.int .u8) (.seq (.int .u8) (.seq (.int .u8) (.seq (.seq (.int .u16) (.seq (.int .u16) (.int .u8))) (.row 5 (.int .u8))))))) (vcs := []) ?_ (valids_nil) Tryd.func73 Tryd.ntmps73 rfl (by kernel_rfl) build1u build1s build1z rfl rfl clos75
  kernel_rfl

end Go.Sx
