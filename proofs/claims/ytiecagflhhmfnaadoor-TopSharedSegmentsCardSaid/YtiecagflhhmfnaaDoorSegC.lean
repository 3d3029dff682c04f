/- Part SegC of a proof: helper lemmas; no conditions. -/
import Derived.Test.YtiecagflhhmfnaaDoorL
import Derived.Test.YtiecagflhhmfnaaDoorSegD
import Derived.Test.YtiecagflhhmfnaaDoorProg
import Derived.KernelRfl

namespace Go.Sx
open Go Go.Proofs

theorem build1u : Tryd.prog.underlying 32 = some (.slice 39) := Tryd.underlying32
theorem build1s : sizeAt Tryd.prog 39 = some 1 := by kernel_rfl
theorem build1z : zeroAt Tryd.prog 39 = some .nilFunc := by kernel_rfl
-- { law := 5, apart := 32, own := 33, see := 34, calls := [35, 39, 42], ty := 70 }
def anns : List (Nat × Nat × LoopAnn) := []
noncomputable def env0 : Env := { P := Tryd.prog, ann := anns }
theorem env0ok : ConOK env0 := fun _ _ h => nomatch h
noncomputable def con137 : Contract := conOf Tryd.prog 2000 2000 false ((Tryd.prog.funcs[137]?).getD default)
theorem fn137 : FnOK Tryd.prog 137 con137 := checkFn_ok (env := env0) env0ok (fuel := 200) (vcs := []) (by kernel_rfl)
    (valids_nil)
noncomputable def env137 : Env := { P := Tryd.prog, con := (137, con137) :: env0.con, inl := [], ann := anns }
theorem env137ok : ConOK env137 := ConOK.cons fn137 env0ok
noncomputable def con136 : Contract := conOf Tryd.prog 2000 2000 true ((Tryd.prog.funcs[136]?).getD default)
theorem fn136 : FnOK Tryd.prog 136 con136 := checkFn_ok (env := env137) env137ok (fuel := 200) (vcs := [⟨[(.le (.v 0) (.v 1)), (.le (.c (0)) (.v 0)), (.le (.v 0) (.c (2000))), (.le (.c (0)) (.v 1)), (.le (.v 1) (.c (9223372036854775807)))], (.le (.v 0) (.v 0))⟩,
    ⟨[(.le (.v 0) (.v 1)), (.le (.c (0)) (.v 0)), (.le (.v 0) (.c (2000))), (.le (.c (0)) (.v 1)), (.le (.v 1) (.c (9223372036854775807)))], (.le (.v 0) (.v 0))⟩]) (by kernel_rfl)
    (valids_cons (by intro ρ h; first | (simp only [holdsAll, Fm.holds, T.ev] at h ⊢; omega) | (simp [holdsAll, Fm.holds, T.ev] at h ⊢; done) | (simp [holdsAll, Fm.holds, T.ev] at h ⊢; omega))
    (valids_cons (by intro ρ h; first | (simp only [holdsAll, Fm.holds, T.ev] at h ⊢; omega) | (simp [holdsAll, Fm.holds, T.ev] at h ⊢; done) | (simp [holdsAll, Fm.holds, T.ev] at h ⊢; omega))
    (valids_nil)))
noncomputable def env136 : Env := { P := Tryd.prog, con := (136, con136) :: env137.con, inl := [], ann := anns }
theorem env136ok : ConOK env136 := ConOK.cons fn136 env137ok
noncomputable def con36 : Contract := conOf Tryd.prog 2000 2000 false ((Tryd.prog.funcs[36]?).getD default)
theorem fn36 : FnOK Tryd.prog 36 con36 := checkFn_ok (env := env136) env136ok (fuel := 200) (vcs := [⟨[(.le (.v 1) (.v 2)), (.le (.c (1)) (.v 3)), (.le (.v 3) (.c (256))), (.le (.c (1)) (.v 4)), (.le (.div (.add (.add (.v 1) (.v 3)) (.c (-1))) (.v 3)) (.v 4)), (.or (.eq (.v 4) (.c (1))) (.eq (.v 4) (.div (.add (.add (.v 1) (.v 3)) (.c (-1))) (.v 3)))), (.le (.v 4) (.c (16))), (.le (.c (0)) (.v 1)), (.le (.v 1) (.c (2000))), (.le (.c (0)) (.v 2)), (.le (.v 2) (.c (9223372036854775807))), (.le (.c (1)) (.v 3)), (.le (.v 3) (.c (256))), (.le (.c (1)) (.v 4)), (.le (.v 4) (.c (16)))], (.le (.v 4) (.v 4))⟩,
    ⟨[(.le (.v 1) (.v 2)), (.le (.c (1)) (.v 3)), (.le (.v 3) (.c (256))), (.le (.c (1)) (.v 4)), (.le (.div (.add (.add (.v 1) (.v 3)) (.c (-1))) (.v 3)) (.v 4)), (.or (.eq (.v 4) (.c (1))) (.eq (.v 4) (.div (.add (.add (.v 1) (.v 3)) (.c (-1))) (.v 3)))), (.le (.v 4) (.c (16))), (.lt (.v 5) (.v 4)), (.le (.v 6) (.mul (.add (.v 5) (.c (1))) (.v 3))), (.le (.v 6) (.v 1)), (.or (.eq (.v 6) (.mul (.add (.v 5) (.c (1))) (.v 3))) (.eq (.v 6) (.v 1))), (.le (.c (0)) (.v 1)), (.le (.v 1) (.c (2000))), (.le (.c (0)) (.v 2)), (.le (.v 2) (.c (9223372036854775807))), (.le (.c (1)) (.v 3)), (.le (.v 3) (.c (256))), (.le (.c (1)) (.v 4)), (.le (.v 4) (.c (16))), (.le (.c (0)) (.v 5)), (.le (.v 5) (.c (15))), (.le (.c (0)) (.v 6)), (.le (.v 6) (.c (2000)))], (.le (.mul (.v 5) (.v 3)) (.v 6))⟩,
    ⟨[(.le (.v 1) (.v 2)), (.le (.c (1)) (.v 3)), (.le (.v 3) (.c (256))), (.le (.c (1)) (.v 4)), (.le (.div (.add (.add (.v 1) (.v 3)) (.c (-1))) (.v 3)) (.v 4)), (.or (.eq (.v 4) (.c (1))) (.eq (.v 4) (.div (.add (.add (.v 1) (.v 3)) (.c (-1))) (.v 3)))), (.le (.v 4) (.c (16))), (.lt (.v 5) (.v 4)), (.le (.v 6) (.mul (.add (.v 5) (.c (1))) (.v 3))), (.le (.v 6) (.v 1)), (.or (.eq (.v 6) (.mul (.add (.v 5) (.c (1))) (.v 3))) (.eq (.v 6) (.v 1))), (.le (.c (0)) (.v 1)), (.le (.v 1) (.c (2000))), (.le (.c (0)) (.v 2)), (.le (.v 2) (.c (9223372036854775807))), (.le (.c (1)) (.v 3)), (.le (.v 3) (.c (256))), (.le (.c (1)) (.v 4)), (.le (.v 4) (.c (16))), (.le (.c (0)) (.v 5)), (.le (.v 5) (.c (15))), (.le (.c (0)) (.v 6)), (.le (.v 6) (.c (2000)))], (.le (.c (0)) (.sub (.v 6) (.mul (.v 5) (.v 3))))⟩,
    ⟨[(.le (.v 1) (.v 2)), (.le (.c (1)) (.v 3)), (.le (.v 3) (.c (256))), (.le (.c (1)) (.v 4)), (.le (.div (.add (.add (.v 1) (.v 3)) (.c (-1))) (.v 3)) (.v 4)), (.or (.eq (.v 4) (.c (1))) (.eq (.v 4) (.div (.add (.add (.v 1) (.v 3)) (.c (-1))) (.v 3)))), (.le (.v 4) (.c (16))), (.lt (.v 5) (.v 4)), (.le (.v 6) (.mul (.add (.v 5) (.c (1))) (.v 3))), (.le (.v 6) (.v 1)), (.or (.eq (.v 6) (.mul (.add (.v 5) (.c (1))) (.v 3))) (.eq (.v 6) (.v 1))), (.le (.c (0)) (.v 1)), (.le (.v 1) (.c (2000))), (.le (.c (0)) (.v 2)), (.le (.v 2) (.c (9223372036854775807))), (.le (.c (1)) (.v 3)), (.le (.v 3) (.c (256))), (.le (.c (1)) (.v 4)), (.le (.v 4) (.c (16))), (.le (.c (0)) (.v 5)), (.le (.v 5) (.c (15))), (.le (.c (0)) (.v 6)), (.le (.v 6) (.c (2000)))], (.le (.c (0)) (.sub (.v 2) (.mul (.v 5) (.v 3))))⟩,
    ⟨[(.le (.v 1) (.v 2)), (.le (.c (1)) (.v 3)), (.le (.v 3) (.c (256))), (.le (.c (1)) (.v 4)), (.le (.div (.add (.add (.v 1) (.v 3)) (.c (-1))) (.v 3)) (.v 4)), (.or (.eq (.v 4) (.c (1))) (.eq (.v 4) (.div (.add (.add (.v 1) (.v 3)) (.c (-1))) (.v 3)))), (.le (.v 4) (.c (16))), (.lt (.v 5) (.v 4)), (.le (.v 6) (.mul (.add (.v 5) (.c (1))) (.v 3))), (.le (.v 6) (.v 1)), (.or (.eq (.v 6) (.mul (.add (.v 5) (.c (1))) (.v 3))) (.eq (.v 6) (.v 1))), (.le (.c (0)) (.v 1)), (.le (.v 1) (.c (2000))), (.le (.c (0)) (.v 2)), (.le (.v 2) (.c (9223372036854775807))), (.le (.c (1)) (.v 3)), (.le (.v 3) (.c (256))), (.le (.c (1)) (.v 4)), (.le (.v 4) (.c (16))), (.le (.c (0)) (.v 5)), (.le (.v 5) (.c (15))), (.le (.c (0)) (.v 6)), (.le (.v 6) (.c (2000)))], (.le (.sub (.v 6) (.mul (.v 5) (.v 3))) (.sub (.v 2) (.mul (.v 5) (.v 3))))⟩,
    ⟨[(.le (.v 1) (.v 2)), (.le (.c (1)) (.v 3)), (.le (.v 3) (.c (256))), (.le (.c (1)) (.v 4)), (.le (.div (.add (.add (.v 1) (.v 3)) (.c (-1))) (.v 3)) (.v 4)), (.or (.eq (.v 4) (.c (1))) (.eq (.v 4) (.div (.add (.add (.v 1) (.v 3)) (.c (-1))) (.v 3)))), (.le (.v 4) (.c (16))), (.lt (.v 5) (.v 4)), (.le (.v 6) (.mul (.add (.v 5) (.c (1))) (.v 3))), (.le (.v 6) (.v 1)), (.or (.eq (.v 6) (.mul (.add (.v 5) (.c (1))) (.v 3))) (.eq (.v 6) (.v 1))), (.le (.c (0)) (.v 1)), (.le (.v 1) (.c (2000))), (.le (.c (0)) (.v 2)), (.le (.v 2) (.c (9223372036854775807))), (.le (.c (1)) (.v 3)), (.le (.v 3) (.c (256))), (.le (.c (1)) (.v 4)), (.le (.v 4) (.c (16))), (.le (.c (0)) (.v 5)), (.le (.v 5) (.c (15))), (.le (.c (0)) (.v 6)), (.le (.v 6) (.c (2000)))], (.le (.c (1)) (.sub (.v 4) (.v 5)))⟩,
    ⟨[(.le (.v 1) (.v 2)), (.le (.c (1)) (.v 3)), (.le (.v 3) (.c (256))), (.le (.c (1)) (.v 4)), (.le (.div (.add (.add (.v 1) (.v 3)) (.c (-1))) (.v 3)) (.v 4)), (.or (.eq (.v 4) (.c (1))) (.eq (.v 4) (.div (.add (.add (.v 1) (.v 3)) (.c (-1))) (.v 3)))), (.le (.v 4) (.c (16))), (.lt (.v 5) (.v 4)), (.le (.v 6) (.mul (.add (.v 5) (.c (1))) (.v 3))), (.le (.v 6) (.v 1)), (.or (.eq (.v 6) (.mul (.add (.v 5) (.c (1))) (.v 3))) (.eq (.v 6) (.v 1))), (.le (.c (0)) (.v 1)), (.le (.v 1) (.c (2000))), (.le (.c (0)) (.v 2)), (.le (.v 2) (.c (9223372036854775807))), (.le (.c (1)) (.v 3)), (.le (.v 3) (.c (256))), (.le (.c (1)) (.v 4)), (.le (.v 4) (.c (16))), (.le (.c (0)) (.v 5)), (.le (.v 5) (.c (15))), (.le (.c (0)) (.v 6)), (.le (.v 6) (.c (2000)))], (.lt (.sub (.v 4) (.add (.v 5) (.c (1)))) (.sub (.v 4) (.v 5)))⟩,
    ⟨[(.le (.v 1) (.v 2)), (.le (.c (1)) (.v 3)), (.le (.v 3) (.c (256))), (.le (.c (1)) (.v 4)), (.le (.div (.add (.add (.v 1) (.v 3)) (.c (-1))) (.v 3)) (.v 4)), (.or (.eq (.v 4) (.c (1))) (.eq (.v 4) (.div (.add (.add (.v 1) (.v 3)) (.c (-1))) (.v 3)))), (.le (.v 4) (.c (16))), (.le (.v 4) (.v 5)), (.le (.c (0)) (.v 1)), (.le (.v 1) (.c (2000))), (.le (.c (0)) (.v 2)), (.le (.v 2) (.c (9223372036854775807))), (.le (.c (1)) (.v 3)), (.le (.v 3) (.c (256))), (.le (.c (1)) (.v 4)), (.le (.v 4) (.c (16))), (.le (.c (1)) (.v 5)), (.le (.v 5) (.c (9223372036854775807)))], (.le (.v 4) (.v 4))⟩]) (by kernel_rfl)
    (valids_cons (by intro ρ h; first | (simp only [holdsAll, Fm.holds, T.ev] at h ⊢; omega) | (simp [holdsAll, Fm.holds, T.ev] at h ⊢; done) | (simp [holdsAll, Fm.holds, T.ev] at h ⊢; omega))
    (valids_cons (by intro ρ h; simp only [holdsAll, Fm.holds, T.ev] at h ⊢; have h1 := nl_split (n := ρ 1) (k := ρ 3) (i := ρ 5) (m := ρ 4) (by omega) (by omega) (by omega) (by omega) (by omega); have h2 : (ρ 5 + 1) * ρ 3 = ρ 5 * ρ 3 + ρ 3 := (by rw [Int.add_mul, Int.one_mul]); rw [h2] at h; generalize ρ 5 * ρ 3 = p at *; omega)
    (valids_cons (by intro ρ h; simp only [holdsAll, Fm.holds, T.ev] at h ⊢; have h1 := nl_split (n := ρ 1) (k := ρ 3) (i := ρ 5) (m := ρ 4) (by omega) (by omega) (by omega) (by omega) (by omega); have h2 : (ρ 5 + 1) * ρ 3 = ρ 5 * ρ 3 + ρ 3 := (by rw [Int.add_mul, Int.one_mul]); rw [h2] at h; generalize ρ 5 * ρ 3 = p at *; omega)
    (valids_cons (by intro ρ h; simp only [holdsAll, Fm.holds, T.ev] at h ⊢; have h1 := nl_split (n := ρ 1) (k := ρ 3) (i := ρ 5) (m := ρ 4) (by omega) (by omega) (by omega) (by omega) (by omega); generalize ρ 5 * ρ 3 = p at *; omega)
    (valids_cons (by intro ρ h; first | (simp only [holdsAll, Fm.holds, T.ev] at h ⊢; omega) | (simp [holdsAll, Fm.holds, T.ev] at h ⊢; done) | (simp [holdsAll, Fm.holds, T.ev] at h ⊢; omega))
    (valids_cons (by intro ρ h; first | (simp only [holdsAll, Fm.holds, T.ev] at h ⊢; omega) | (simp [holdsAll, Fm.holds, T.ev] at h ⊢; done) | (simp [holdsAll, Fm.holds, T.ev] at h ⊢; omega))
    (valids_cons (by intro ρ h; first | (simp only [holdsAll, Fm.holds, T.ev] at h ⊢; omega) | (simp [holdsAll, Fm.holds, T.ev] at h ⊢; done) | (simp [holdsAll, Fm.holds, T.ev] at h ⊢; omega))
    (valids_cons (by intro ρ h; first | (simp only [holdsAll, Fm.holds, T.ev] at h ⊢; omega) | (simp [holdsAll, Fm.holds, T.ev] at h ⊢; done) | (simp [holdsAll, Fm.holds, T.ev] at h ⊢; omega))
    (valids_nil)))))))))
noncomputable def env36 : Env := { P := Tryd.prog, con := (36, con36) :: env136.con, inl := [], ann := anns }
theorem env36ok : ConOK env36 := ConOK.cons fn36 env136ok
noncomputable def con139 : Contract := conOf Tryd.prog 2000 2000 false ((Tryd.prog.funcs[139]?).getD default)
theorem fn139 : FnOK Tryd.prog 139 con139 := checkFn_ok (env := env36) env36ok (fuel := 200) (vcs := []) (by kernel_rfl)
    (valids_nil)
noncomputable def env139 : Env := { P := Tryd.prog, con := (139, con139) :: env36.con, inl := [], ann := anns }
theorem env139ok : ConOK env139 := ConOK.cons fn139 env36ok
noncomputable def con40 : Contract := conOf Tryd.prog 2000 2064 false ((Tryd.prog.funcs[40]?).getD default)
theorem fn40 : FnOK Tryd.prog 40 con40 := checkFn_ok (env := env139) env139ok (fuel := 200) (vcs := [⟨[(.lt (.v 7) (.c (4))), (.le (.c (0)) (.v 7)), (.le (.v 7) (.c (3)))], (.lt (.sub (.c (4)) (.add (.v 7) (.c (1)))) (.sub (.c (4)) (.v 7)))⟩]) (by kernel_rfl)
    (valids_cons (by intro ρ h; first | (simp only [holdsAll, Fm.holds, T.ev] at h ⊢; omega) | (simp [holdsAll, Fm.holds, T.ev] at h ⊢; done) | (simp [holdsAll, Fm.holds, T.ev] at h ⊢; omega))
    (valids_nil))
noncomputable def env40 : Env := { P := Tryd.prog, con := (40, con40) :: env139.con, inl := [], ann := anns }
theorem env40ok : ConOK env40 := ConOK.cons fn40 env139ok
noncomputable def con43 : Contract := conOf Tryd.prog 2000 2000 false ((Tryd.prog.funcs[43]?).getD default)
theorem fn43 : FnOK Tryd.prog 43 con43 := checkFn_ok (env := env40) env40ok (fuel := 200) (vcs := [⟨[(.lt (.v 7) (.c (4))), (.le (.c (0)) (.v 7)), (.le (.v 7) (.c (3)))], (.lt (.sub (.c (4)) (.add (.v 7) (.c (1)))) (.sub (.c (4)) (.v 7)))⟩,
    ⟨[(.le (.v 0) (.v 1)), (.le (.c (5)) (.v 0)), (.le (.v 0) (.c (261))), (.le (.c (5)) (.v 0)), (.le (.v 0) (.c (261))), (.le (.c (0)) (.v 1)), (.le (.v 1) (.c (9223372036854775807)))], (.le (.c (0)) (.add (.v 1) (.c (-5))))⟩,
    ⟨[(.le (.v 0) (.v 1)), (.le (.c (5)) (.v 0)), (.le (.v 0) (.c (261))), (.le (.c (5)) (.v 0)), (.le (.v 0) (.c (261))), (.le (.c (0)) (.v 1)), (.le (.v 1) (.c (9223372036854775807)))], (.le (.add (.v 0) (.c (-5))) (.add (.v 1) (.c (-5))))⟩]) (by kernel_rfl)
    (valids_cons (by intro ρ h; first | (simp only [holdsAll, Fm.holds, T.ev] at h ⊢; omega) | (simp [holdsAll, Fm.holds, T.ev] at h ⊢; done) | (simp [holdsAll, Fm.holds, T.ev] at h ⊢; omega))
    (valids_cons (by intro ρ h; first | (simp only [holdsAll, Fm.holds, T.ev] at h ⊢; omega) | (simp [holdsAll, Fm.holds, T.ev] at h ⊢; done) | (simp [holdsAll, Fm.holds, T.ev] at h ⊢; omega))
    (valids_cons (by intro ρ h; first | (simp only [holdsAll, Fm.holds, T.ev] at h ⊢; omega) | (simp [holdsAll, Fm.holds, T.ev] at h ⊢; done) | (simp [holdsAll, Fm.holds, T.ev] at h ⊢; omega))
    (valids_nil))))
noncomputable def env43 : Env := { P := Tryd.prog, con := (43, con43) :: env40.con, inl := [], ann := anns }
theorem env43ok : ConOK env43 := ConOK.cons fn43 env40ok
noncomputable def envL : Env := { P := Tryd.prog, con := env43.con, inl := [], ann := anns, wa := true }
theorem envLok : ConOK envL := fun g c h => env43ok g c h
theorem call35 : CallOK Tryd.prog 3 9 2000 35 (.seq (.int .u32) (.seq (.row 5 (.int .u8)) (.seq (.int .i64) (.seq (.seq (.int .u32) (.seq .bool (.seq (.int .u8) (.row 5 (.int .u8))))) (.row 5 (.int .u8)))))) := by
  refine CallOK.one (env := envL) envLok (fuel := 200) (dr := (.row 68 (.seq (.int .u32) (.seq .bool (.seq (.int .u8) (.row 5 (.int .u8))))))) (vcs := []) ?_ (valids_nil) Tryd.func35 Tryd.ntmps35 rfl (by kernel_rfl) build1u build1s build1z rfl rfl clos37
  kernel_rfl
theorem call39 : CallOK Tryd.prog 3 9 2000 39 (.seq (.int .u32) (.seq (.row 5 (.int .u8)) (.seq (.int .i64) (.seq (.seq (.int .u32) (.seq .bool (.seq (.int .u8) (.row 5 (.int .u8))))) (.row 5 (.int .u8)))))) := by
  refine CallOK.one (env := envL) envLok (fuel := 200) (dr := (.row 5 (.int .u8))) (vcs := []) ?_ (valids_nil) Tryd.func39 Tryd.ntmps39 rfl (by kernel_rfl) build1u build1s build1z rfl rfl clos41
  kernel_rfl
theorem call42 : CallOK Tryd.prog 3 9 2000 42 (.seq (.int .u32) (.seq (.row 5 (.int .u8)) (.seq (.int .i64) (.seq (.seq (.int .u32) (.seq .bool (.seq (.int .u8) (.row 5 (.int .u8))))) (.row 5 (.int .u8)))))) := by
  refine CallOK.one (env := envL) envLok (fuel := 200) (dr := (.seq (.int .u32) (.seq .bool (.seq (.int .u8) (.row 5 (.int .u8)))))) (vcs := []) ?_ (valids_nil) Tryd.func42 Tryd.ntmps42 rfl (by kernel_rfl) build1u build1s build1z rfl rfl clos44
  kernel_rfl

end Go.Sx
