/- Part UniC of a proof: helper lemmas; no conditions. -/
import Derived.Test.YtnpjbhmolemciaaGreatDoorUniH
import Derived.Test.YtnpjbhmolemciaaGreatDoorL
import Derived.Test.YtnpjbhmolemciaaGreatDoorUniD
import Derived.Test.YtnpjbhmolemciaaGreatDoorProg
import Derived.KernelRfl

set_option linter.unusedSimpArgs false
set_option linter.unusedVariables false

namespace Go.Sx
open Go Go.Proofs

theorem build1u : Tryz.prog.underlying 31 = some (.slice 39) := Tryz.underlying31
theorem build1s : sizeAt Tryz.prog 39 = some 1 := by kernel_rfl
theorem build1z : zeroAt Tryz.prog 39 = some .nilFunc := by kernel_rfl
-- { law := 4, apart := 37, own := 38, see := 39, calls := [40, 42, 45, 49, 51], ty := 61 }
def anns : List (Nat × Nat × LoopAnn) := [(69, 0, { ivs := [], facts := [], meas := none, keep := [], peel := 3 }),
  (69, 2, { ivs := [], facts := [], meas := none, keep := [], peel := 3 })]
noncomputable def env0 : Env := { P := Tryz.prog, ann := anns }
theorem env0ok : ConOK env0 := fun _ _ h => nomatch h
noncomputable def con41 : Contract := { conOf Tryz.prog 2000 2000 false ((Tryz.prog.funcs[41]?).getD default) with gl := glL }
theorem fn41 : FnOK Tryz.prog 41 con41 := checkFn_ok (env := env0) env0ok (fuel := 200) (vcs := []) (by kernel_rfl)
    (valids_nil)
noncomputable def env41 : Env := { P := Tryz.prog, con := (41, con41) :: env0.con, inl := [], ann := anns }
theorem env41ok : ConOK env41 := ConOK.cons fn41 env0ok
noncomputable def con83 : Contract := { conOf Tryz.prog 2000 2000 false ((Tryz.prog.funcs[83]?).getD default) with gl := glL }
theorem fn83 : FnOK Tryz.prog 83 con83 := checkFn_ok (env := env41) env41ok (fuel := 200) (vcs := []) (by kernel_rfl)
    (valids_nil)
noncomputable def env83 : Env := { P := Tryz.prog, con := (83, con83) :: env41.con, inl := [], ann := anns }
theorem env83ok : ConOK env83 := ConOK.cons fn83 env41ok
-- no contract: 84 pointcode/units.content 
noncomputable def env84 : Env := { P := Tryz.prog, con := env83.con, inl := [84], ann := anns }
theorem env84ok : ConOK env84 := fun g c h => env83ok g c h
noncomputable def con85 : Contract := { conOf Tryz.prog 2000 2000 false ((Tryz.prog.funcs[85]?).getD default) with gl := glL }
theorem fn85 : FnOK Tryz.prog 85 con85 := checkFn_ok (env := env84) env84ok (fuel := 200) (vcs := []) (by kernel_rfl)
    (valids_nil)
noncomputable def env85 : Env := { P := Tryz.prog, con := (85, con85) :: env84.con, inl := [84], ann := anns }
theorem env85ok : ConOK env85 := ConOK.cons fn85 env84ok
noncomputable def con94 : Contract := { conOfI Tryz.prog 2000 2000 true 70000 ((Tryz.prog.funcs[94]?).getD default) with gl := glL }
theorem fn94 : FnOK Tryz.prog 94 con94 := checkFn_ok (env := env85) env85ok (fuel := 200) (vcs := [⟨[(.le (.v 0) (.v 1)), (.lt (.c (0)) (.sub (.v 2) (.sub (.v 1) (.v 0)))), (.le (.c (0)) (.v 0)), (.le (.v 0) (.c (2000))), (.le (.c (0)) (.v 1)), (.le (.v 1) (.c (9223372036854775807))), (.le (.c (0)) (.v 2)), (.le (.v 2) (.c (70000)))], (.le (.v 1) (.v 1))⟩,
    ⟨[(.le (.v 0) (.v 1)), (.lt (.c (0)) (.sub (.v 2) (.sub (.v 1) (.v 0)))), (.le (.c (0)) (.v 0)), (.le (.v 0) (.c (2000))), (.le (.c (0)) (.v 1)), (.le (.v 1) (.c (9223372036854775807))), (.le (.c (0)) (.v 2)), (.le (.v 2) (.c (70000)))], (.le (.c (0)) (.sub (.v 2) (.sub (.v 1) (.v 0))))⟩,
    ⟨[(.le (.v 0) (.v 1)), (.lt (.c (0)) (.sub (.v 2) (.sub (.v 1) (.v 0)))), (.le (.c (0)) (.v 0)), (.le (.v 0) (.c (2000))), (.le (.c (0)) (.v 1)), (.le (.v 1) (.c (9223372036854775807))), (.le (.c (0)) (.v 2)), (.le (.v 2) (.c (70000)))], (.le (.add (.v 1) (.sub (.v 2) (.sub (.v 1) (.v 0)))) (.c (140737488355328)))⟩,
    ⟨[(.le (.v 0) (.v 1)), (.lt (.c (0)) (.sub (.v 2) (.sub (.v 1) (.v 0)))), (.le (.c (0)) (.v 0)), (.le (.v 0) (.c (2000))), (.le (.c (0)) (.v 1)), (.le (.v 1) (.c (9223372036854775807))), (.le (.c (0)) (.v 2)), (.le (.v 2) (.c (70000)))], (.le (.add (.v 1) (.sub (.v 2) (.sub (.v 1) (.v 0)))) (.c (9223372036854775807)))⟩,
    ⟨[(.le (.v 0) (.v 1)), (.lt (.c (0)) (.sub (.v 2) (.sub (.v 1) (.v 0)))), (.le (.add (.v 1) (.sub (.v 2) (.sub (.v 1) (.v 0)))) (.v 3)), (.le (.c (0)) (.v 0)), (.le (.v 0) (.c (2000))), (.le (.c (0)) (.v 1)), (.le (.v 1) (.c (9223372036854775807))), (.le (.c (0)) (.v 2)), (.le (.v 2) (.c (70000))), (.le (.c (0)) (.v 3)), (.le (.v 3) (.c (9223372036854775807)))], (.le (.v 0) (.v 3))⟩,
    ⟨[(.le (.v 0) (.v 1)), (.lt (.c (0)) (.sub (.v 2) (.sub (.v 1) (.v 0)))), (.le (.add (.v 1) (.sub (.v 2) (.sub (.v 1) (.v 0)))) (.v 3)), (.le (.c (0)) (.v 0)), (.le (.v 0) (.c (2000))), (.le (.c (0)) (.v 1)), (.le (.v 1) (.c (9223372036854775807))), (.le (.c (0)) (.v 2)), (.le (.v 2) (.c (70000))), (.le (.c (0)) (.v 3)), (.le (.v 3) (.c (9223372036854775807)))], (.le (.v 0) (.v 3))⟩]) (by kernel_rfl)
    (valids_cons (by intro ρ h; first | (simp only [holdsAll, Fm.holds, T.ev] at h ⊢; omega) | (simp [holdsAll, Fm.holds, T.ev] at h ⊢; done) | (simp [holdsAll, Fm.holds, T.ev] at h ⊢; omega))
    (valids_cons (by intro ρ h; first | (simp only [holdsAll, Fm.holds, T.ev] at h ⊢; omega) | (simp [holdsAll, Fm.holds, T.ev] at h ⊢; done) | (simp [holdsAll, Fm.holds, T.ev] at h ⊢; omega))
    (valids_cons (by intro ρ h; first | (simp only [holdsAll, Fm.holds, T.ev] at h ⊢; omega) | (simp [holdsAll, Fm.holds, T.ev] at h ⊢; done) | (simp [holdsAll, Fm.holds, T.ev] at h ⊢; omega))
    (valids_cons (by intro ρ h; first | (simp only [holdsAll, Fm.holds, T.ev] at h ⊢; omega) | (simp [holdsAll, Fm.holds, T.ev] at h ⊢; done) | (simp [holdsAll, Fm.holds, T.ev] at h ⊢; omega))
    (valids_cons (by intro ρ h; first | (simp only [holdsAll, Fm.holds, T.ev] at h ⊢; omega) | (simp [holdsAll, Fm.holds, T.ev] at h ⊢; done) | (simp [holdsAll, Fm.holds, T.ev] at h ⊢; omega))
    (valids_cons (by intro ρ h; first | (simp only [holdsAll, Fm.holds, T.ev] at h ⊢; omega) | (simp [holdsAll, Fm.holds, T.ev] at h ⊢; done) | (simp [holdsAll, Fm.holds, T.ev] at h ⊢; omega))
    (valids_nil)))))))
noncomputable def env94 : Env := { P := Tryz.prog, con := (94, con94) :: env85.con, inl := [84], ann := anns }
theorem env94ok : ConOK env94 := ConOK.cons fn94 env85ok
-- no contract: 69 slices.Concat[[]byte,byte] 
noncomputable def env69 : Env := { P := Tryz.prog, con := env94.con, inl := [69, 84], ann := anns }
theorem env69ok : ConOK env69 := fun g c h => env94ok g c h
noncomputable def con68 : Contract := { conOfX Tryz.prog 20000000000000 20000000000000 [0] [] [] [(.eq (.v 2) (.v 0))] ((Tryz.prog.funcs[68]?).getD default) with gl := glL }
theorem fn68 : FnOK Tryz.prog 68 con68 := checkFn_ok (env := env69) env69ok (fuel := 200) (vcs := [⟨[(.le (.v 0) (.v 1)), (.le (.c (0)) (.v 0)), (.le (.v 0) (.c (20000000000000))), (.le (.c (0)) (.v 1)), (.le (.v 1) (.c (9223372036854775807)))], (.le (.v 0) (.v 0))⟩,
    ⟨[(.le (.v 0) (.v 1)), (.le (.c (0)) (.v 0)), (.le (.v 0) (.c (20000000000000))), (.le (.c (0)) (.v 1)), (.le (.v 1) (.c (9223372036854775807)))], (.le (.v 0) (.v 0))⟩]) (by kernel_rfl)
    (valids_cons (by intro ρ h; first | (simp only [holdsAll, Fm.holds, T.ev] at h ⊢; omega) | (simp [holdsAll, Fm.holds, T.ev] at h ⊢; done) | (simp [holdsAll, Fm.holds, T.ev] at h ⊢; omega))
    (valids_cons (by intro ρ h; first | (simp only [holdsAll, Fm.holds, T.ev] at h ⊢; omega) | (simp [holdsAll, Fm.holds, T.ev] at h ⊢; done) | (simp [holdsAll, Fm.holds, T.ev] at h ⊢; omega))
    (valids_nil)))
noncomputable def env68 : Env := { P := Tryz.prog, con := (68, con68) :: env69.con, inl := [69, 84], ann := anns }
theorem env68ok : ConOK env68 := ConOK.cons fn68 env69ok
noncomputable def con43 : Contract := { conOf Tryz.prog 2000 4100 false ((Tryz.prog.funcs[43]?).getD default) with gl := glL }
theorem fn43 : FnOK Tryz.prog 43 con43 := checkFn_ok (env := env68) env68ok (fuel := 200) (vcs := [⟨[(.le (.v 17) (.v 18)), (.le (.add (.v 17) (.c (3))) (.v 19)), (.le (.add (.v 17) (.c (4))) (.v 20)), (.le (.v 21) (.v 22)), (.eq (.v 21) (.add (.v 17) (.c (4)))), (.le (.c (0)) (.v 17)), (.le (.v 17) (.c (2000))), (.le (.c (0)) (.v 18)), (.le (.v 18) (.c (9223372036854775807))), (.le (.c (0)) (.v 19)), (.le (.v 19) (.c (9223372036854775807))), (.le (.c (0)) (.v 20)), (.le (.v 20) (.c (9223372036854775807))), (.le (.c (0)) (.v 21)), (.le (.v 21) (.c (20000000000000))), (.le (.c (0)) (.v 22)), (.le (.v 22) (.c (9223372036854775807)))], (.le (.v 21) (.c (4100)))⟩,
    ⟨[(.le (.v 6) (.v 7)), (.le (.v 16) (.v 17)), (.le (.add (.v 16) (.c (3))) (.v 18)), (.le (.add (.add (.v 16) (.c (3))) (.v 6)) (.v 19)), (.le (.v 20) (.v 21)), (.eq (.v 20) (.add (.add (.v 16) (.c (3))) (.v 6))), (.le (.c (0)) (.v 6)), (.le (.v 6) (.c (2000))), (.le (.c (0)) (.v 7)), (.le (.v 7) (.c (9223372036854775807))), (.le (.c (0)) (.v 16)), (.le (.v 16) (.c (2000))), (.le (.c (0)) (.v 17)), (.le (.v 17) (.c (9223372036854775807))), (.le (.c (0)) (.v 18)), (.le (.v 18) (.c (9223372036854775807))), (.le (.c (0)) (.v 19)), (.le (.v 19) (.c (9223372036854775807))), (.le (.c (0)) (.v 20)), (.le (.v 20) (.c (20000000000000))), (.le (.c (0)) (.v 21)), (.le (.v 21) (.c (9223372036854775807)))], (.le (.v 20) (.c (4100)))⟩]) (by kernel_rfl)
    (valids_cons (by intro ρ h; first | (simp only [holdsAll, Fm.holds, T.ev] at h ⊢; omega) | (simp [holdsAll, Fm.holds, T.ev] at h ⊢; done) | (simp [holdsAll, Fm.holds, T.ev] at h ⊢; omega))
    (valids_cons (by intro ρ h; first | (simp only [holdsAll, Fm.holds, T.ev] at h ⊢; omega) | (simp [holdsAll, Fm.holds, T.ev] at h ⊢; done) | (simp [holdsAll, Fm.holds, T.ev] at h ⊢; omega))
    (valids_nil)))
noncomputable def env43 : Env := { P := Tryz.prog, con := (43, con43) :: env68.con, inl := [69, 84], ann := anns }
theorem env43ok : ConOK env43 := ConOK.cons fn43 env68ok
noncomputable def con86 : Contract := { conOf Tryz.prog 2000 2000 false ((Tryz.prog.funcs[86]?).getD default) with gl := glL }
theorem fn86 : FnOK Tryz.prog 86 con86 := checkFn_ok (env := env43) env43ok (fuel := 200) (vcs := []) (by kernel_rfl)
    (valids_nil)
noncomputable def env86 : Env := { P := Tryz.prog, con := (86, con86) :: env43.con, inl := [69, 84], ann := anns }
theorem env86ok : ConOK env86 := ConOK.cons fn86 env43ok
noncomputable def con72 : Contract := { conOfX Tryz.prog 1000000 1000000 [] [] [] [(.eq (.v 2) (.v 0))] ((Tryz.prog.funcs[72]?).getD default) with gl := glL }
theorem fn72 : FnOK Tryz.prog 72 con72 := checkFn_ok (env := env86) env86ok (fuel := 200) (vcs := [⟨[(.le (.v 0) (.v 1)), (.or (.eq (.v 2) (.c (0))) (.eq (.v 0) (.c (0)))), (.eq (.v 2) (.c (1))), (.le (.c (0)) (.v 0)), (.le (.v 0) (.c (1000000))), (.le (.c (0)) (.v 1)), (.le (.v 1) (.c (9223372036854775807))), (.le (.c (1)) (.v 2)), (.le (.v 2) (.c (1)))], (.eq (.c (0)) (.v 0))⟩]) (by kernel_rfl)
    (valids_cons (by intro ρ h; first | (simp only [holdsAll, Fm.holds, T.ev] at h ⊢; omega) | (simp [holdsAll, Fm.holds, T.ev] at h ⊢; done) | (simp [holdsAll, Fm.holds, T.ev] at h ⊢; omega))
    (valids_nil))
noncomputable def env72 : Env := { P := Tryz.prog, con := (72, con72) :: env86.con, inl := [69, 84], ann := anns }
theorem env72ok : ConOK env72 := ConOK.cons fn72 env86ok
noncomputable def con46 : Contract := { conOf Tryz.prog 2000 1099511627776 false ((Tryz.prog.funcs[46]?).getD default) with gl := glL }
theorem fn46 : FnOK Tryz.prog 46 con46 := checkFn_ok (env := env72) env72ok (fuel := 200) (vcs := [⟨[(.le (.v 0) (.v 1)), (.le (.c (0)) (.add (.v 0) (.c (-3)))), (.le (.add (.v 0) (.c (-3))) (.c (273))), (.ne (.add (.v 0) (.c (-3))) (.c (0))), (.ne (.add (.v 0) (.c (-3))) (.c (1))), (.le (.c (3)) (.v 0)), (.le (.v 0) (.c (276))), (.le (.c (0)) (.v 1)), (.le (.v 1) (.c (9223372036854775807)))], (.le (.c (0)) (.add (.v 1) (.c (-3))))⟩,
    ⟨[(.le (.v 0) (.v 1)), (.le (.c (0)) (.add (.v 0) (.c (-3)))), (.le (.add (.v 0) (.c (-3))) (.c (273))), (.ne (.add (.v 0) (.c (-3))) (.c (0))), (.ne (.add (.v 0) (.c (-3))) (.c (1))), (.le (.c (3)) (.v 0)), (.le (.v 0) (.c (276))), (.le (.c (0)) (.v 1)), (.le (.v 1) (.c (9223372036854775807)))], (.le (.add (.v 0) (.c (-3))) (.add (.v 1) (.c (-3))))⟩,
    ⟨[(.le (.v 0) (.v 1)), (.le (.c (0)) (.add (.v 0) (.c (-3)))), (.le (.add (.v 0) (.c (-3))) (.c (273))), (.ne (.add (.v 0) (.c (-3))) (.c (0))), (.ne (.add (.v 0) (.c (-3))) (.c (1))), (.le (.v 12) (.v 13)), (.eq (.v 12) (.add (.v 0) (.c (-3)))), (.le (.v 14) (.v 15)), (.eq (.v 14) (.v 12)), (.le (.c (3)) (.v 0)), (.le (.v 0) (.c (276))), (.le (.c (0)) (.v 1)), (.le (.v 1) (.c (9223372036854775807))), (.le (.c (0)) (.v 12)), (.le (.v 12) (.c (1000000))), (.le (.c (0)) (.v 13)), (.le (.v 13) (.c (9223372036854775807))), (.le (.c (0)) (.v 14)), (.le (.v 14) (.c (20000000000000))), (.le (.c (0)) (.v 15)), (.le (.v 15) (.c (9223372036854775807)))], (.le (.v 14) (.c (1099511627776)))⟩]) (by kernel_rfl)
    (valids_cons (by intro ρ h; first | (simp only [holdsAll, Fm.holds, T.ev] at h ⊢; omega) | (simp [holdsAll, Fm.holds, T.ev] at h ⊢; done) | (simp [holdsAll, Fm.holds, T.ev] at h ⊢; omega))
    (valids_cons (by intro ρ h; first | (simp only [holdsAll, Fm.holds, T.ev] at h ⊢; omega) | (simp [holdsAll, Fm.holds, T.ev] at h ⊢; done) | (simp [holdsAll, Fm.holds, T.ev] at h ⊢; omega))
    (valids_cons (by intro ρ h; first | (simp only [holdsAll, Fm.holds, T.ev] at h ⊢; omega) | (simp [holdsAll, Fm.holds, T.ev] at h ⊢; done) | (simp [holdsAll, Fm.holds, T.ev] at h ⊢; omega))
    (valids_nil))))
noncomputable def env46 : Env := { P := Tryz.prog, con := (46, con46) :: env72.con, inl := [69, 84], ann := anns }
theorem env46ok : ConOK env46 := ConOK.cons fn46 env72ok
noncomputable def con89 : Contract := { conOf Tryz.prog 1000000000 1000000000 false ((Tryz.prog.funcs[89]?).getD default) with gl := glL }
theorem fn89 : FnOK Tryz.prog 89 con89 := checkFn_ok (env := env46) env46ok (fuel := 200) (vcs := [⟨[(.le (.v 0) (.v 1)), (.le (.v 2) (.v 3)), (.eq (.v 0) (.v 2)), (.lt (.v 5) (.v 0)), (.le (.c (1)) (.v 0)), (.le (.v 0) (.c (1000000000))), (.le (.c (0)) (.v 1)), (.le (.v 1) (.c (9223372036854775807))), (.le (.c (0)) (.v 2)), (.le (.v 2) (.c (1000000000))), (.le (.c (0)) (.v 3)), (.le (.v 3) (.c (9223372036854775807))), (.le (.c (0)) (.v 5)), (.le (.v 5) (.c (999999999)))], (.lt (.v 5) (.v 2))⟩,
    ⟨[(.le (.v 0) (.v 1)), (.le (.v 2) (.v 3)), (.eq (.v 0) (.v 2)), (.lt (.v 5) (.v 0)), (.le (.c (1)) (.v 0)), (.le (.v 0) (.c (1000000000))), (.le (.c (0)) (.v 1)), (.le (.v 1) (.c (9223372036854775807))), (.le (.c (0)) (.v 2)), (.le (.v 2) (.c (1000000000))), (.le (.c (0)) (.v 3)), (.le (.v 3) (.c (9223372036854775807))), (.le (.c (0)) (.v 5)), (.le (.v 5) (.c (999999999)))], (.le (.c (1)) (.sub (.v 0) (.v 5)))⟩,
    ⟨[(.le (.v 0) (.v 1)), (.le (.v 2) (.v 3)), (.eq (.v 0) (.v 2)), (.lt (.v 5) (.v 0)), (.le (.c (1)) (.v 0)), (.le (.v 0) (.c (1000000000))), (.le (.c (0)) (.v 1)), (.le (.v 1) (.c (9223372036854775807))), (.le (.c (0)) (.v 2)), (.le (.v 2) (.c (1000000000))), (.le (.c (0)) (.v 3)), (.le (.v 3) (.c (9223372036854775807))), (.le (.c (0)) (.v 5)), (.le (.v 5) (.c (999999999)))], (.lt (.sub (.v 0) (.add (.v 5) (.c (1)))) (.sub (.v 0) (.v 5)))⟩]) (by kernel_rfl)
    (valids_cons (by intro ρ h; first | (simp only [holdsAll, Fm.holds, T.ev] at h ⊢; omega) | (simp [holdsAll, Fm.holds, T.ev] at h ⊢; done) | (simp [holdsAll, Fm.holds, T.ev] at h ⊢; omega))
    (valids_cons (by intro ρ h; first | (simp only [holdsAll, Fm.holds, T.ev] at h ⊢; omega) | (simp [holdsAll, Fm.holds, T.ev] at h ⊢; done) | (simp [holdsAll, Fm.holds, T.ev] at h ⊢; omega))
    (valids_cons (by intro ρ h; first | (simp only [holdsAll, Fm.holds, T.ev] at h ⊢; omega) | (simp [holdsAll, Fm.holds, T.ev] at h ⊢; done) | (simp [holdsAll, Fm.holds, T.ev] at h ⊢; omega))
    (valids_nil))))
noncomputable def env89 : Env := { P := Tryz.prog, con := (89, con89) :: env46.con, inl := [69, 84], ann := anns }
theorem env89ok : ConOK env89 := ConOK.cons fn89 env46ok
noncomputable def con50 : Contract := { conOf Tryz.prog 2000 2000 false ((Tryz.prog.funcs[50]?).getD default) with gl := glL }
theorem fn50 : FnOK Tryz.prog 50 con50 := checkFn_ok (env := env89) env89ok (fuel := 200) (vcs := []) (by kernel_rfl)
    (valids_nil)
noncomputable def env50 : Env := { P := Tryz.prog, con := (50, con50) :: env89.con, inl := [69, 84], ann := anns }
theorem env50ok : ConOK env50 := ConOK.cons fn50 env89ok
-- no contract: 113 internal/strconv.small conditions fail
noncomputable def env113 : Env := { P := Tryz.prog, con := env50.con, inl := [113, 69, 84], ann := anns }
theorem env113ok : ConOK env113 := fun g c h => env50ok g c h
noncomputable def con127 : Contract := { conOf Tryz.prog 2000 2000 false ((Tryz.prog.funcs[127]?).getD default) with gl := glL }
theorem fn127 : FnOK Tryz.prog 127 con127 := checkFn_ok (env := env113) env113ok (fuel := 200) (vcs := []) (by kernel_rfl)
    (valids_nil)
noncomputable def env127 : Env := { P := Tryz.prog, con := (127, con127) :: env113.con, inl := [113, 69, 84], ann := anns }
theorem env127ok : ConOK env127 := ConOK.cons fn127 env113ok
noncomputable def con126 : Contract := { conOf Tryz.prog 2000 2000 false ((Tryz.prog.funcs[126]?).getD default) with gl := glL }
theorem fn126 : FnOK Tryz.prog 126 con126 := checkFn_ok (env := env127) env127ok (fuel := 200) (vcs := []) (by kernel_rfl)
    (valids_nil)
noncomputable def env126 : Env := { P := Tryz.prog, con := (126, con126) :: env127.con, inl := [113, 69, 84], ann := anns }
theorem env126ok : ConOK env126 := ConOK.cons fn126 env127ok
noncomputable def con128 : Contract := { conOf Tryz.prog 2000 2000 false ((Tryz.prog.funcs[128]?).getD default) with gl := glL }
theorem fn128 : FnOK Tryz.prog 128 con128 := checkFn_ok (env := env126) env126ok (fuel := 200) (vcs := []) (by kernel_rfl)
    (valids_nil)
noncomputable def env128 : Env := { P := Tryz.prog, con := (128, con128) :: env126.con, inl := [113, 69, 84], ann := anns }
theorem env128ok : ConOK env128 := ConOK.cons fn128 env126ok
-- no contract: 114 internal/strconv.numDigits 
noncomputable def env114 : Env := { P := Tryz.prog, con := env128.con, inl := [114, 113, 69, 84], ann := anns }
theorem env114ok : ConOK env114 := fun g c h => env128ok g c h
-- no contract: 115 internal/strconv.formatBase10 conditions fail
noncomputable def env115 : Env := { P := Tryz.prog, con := env114.con, inl := [115, 114, 113, 69, 84], ann := anns }
theorem env115ok : ConOK env115 := fun g c h => env114ok g c h
noncomputable def con129 : Contract := { conOf Tryz.prog 2000 2000 false ((Tryz.prog.funcs[129]?).getD default) with gl := glL }
theorem fn129 : FnOK Tryz.prog 129 con129 := checkFn_ok (env := env115) env115ok (fuel := 200) (vcs := []) (by kernel_rfl)
    (valids_nil)
noncomputable def env129 : Env := { P := Tryz.prog, con := (129, con129) :: env115.con, inl := [115, 114, 113, 69, 84], ann := anns }
theorem env129ok : ConOK env129 := ConOK.cons fn129 env115ok
-- no contract: 135 math/bits.TrailingZeros32 
noncomputable def env135 : Env := { P := Tryz.prog, con := env129.con, inl := [135, 115, 114, 113, 69, 84], ann := anns }
theorem env135ok : ConOK env135 := fun g c h => env129ok g c h
-- no contract: 136 math/bits.TrailingZeros64 
noncomputable def env136 : Env := { P := Tryz.prog, con := env135.con, inl := [136, 135, 115, 114, 113, 69, 84], ann := anns }
theorem env136ok : ConOK env136 := fun g c h => env135ok g c h
-- no contract: 130 math/bits.TrailingZeros 
noncomputable def env130 : Env := { P := Tryz.prog, con := env136.con, inl := [130, 136, 135, 115, 114, 113, 69, 84], ann := anns }
theorem env130ok : ConOK env130 := fun g c h => env136ok g c h
-- no contract: 116 internal/strconv.formatBits 
noncomputable def env116 : Env := { P := Tryz.prog, con := env130.con, inl := [116, 130, 136, 135, 115, 114, 113, 69, 84], ann := anns }
theorem env116ok : ConOK env116 := fun g c h => env130ok g c h
-- no contract: 109 internal/strconv.FormatInt 
noncomputable def env109 : Env := { P := Tryz.prog, con := env116.con, inl := [109, 116, 130, 136, 135, 115, 114, 113, 69, 84], ann := anns }
theorem env109ok : ConOK env109 := fun g c h => env116ok g c h
-- no contract: 103 internal/strconv.Itoa 
noncomputable def env103 : Env := { P := Tryz.prog, con := env109.con, inl := [103, 109, 116, 130, 136, 135, 115, 114, 113, 69, 84], ann := anns }
theorem env103ok : ConOK env103 := fun g c h => env109ok g c h
noncomputable def con91 : Contract := { conOf Tryz.prog 2000 21 false ((Tryz.prog.funcs[91]?).getD default) with gl := glL }
theorem fn91 : FnOK Tryz.prog 91 con91 := hand91
noncomputable def env91 : Env := { P := Tryz.prog, con := (91, con91) :: env103.con, inl := [103, 109, 116, 130, 136, 135, 115, 114, 113, 69, 84], ann := anns }
theorem env91ok : ConOK env91 := ConOK.cons fn91 env103ok
noncomputable def con90 : Contract := { conOf Tryz.prog 2000 2000 false ((Tryz.prog.funcs[90]?).getD default) with gl := glL }
theorem fn90 : FnOK Tryz.prog 90 con90 := checkFn_ok (env := env91) env91ok (fuel := 200) (vcs := []) (by kernel_rfl)
    (valids_nil)
noncomputable def env90 : Env := { P := Tryz.prog, con := (90, con90) :: env91.con, inl := [103, 109, 116, 130, 136, 135, 115, 114, 113, 69, 84], ann := anns }
theorem env90ok : ConOK env90 := ConOK.cons fn90 env91ok
-- no contract: 104 internal/abi.NoEscape 
-- no contract: 96 (*strings.Builder).copyCheck 
noncomputable def env96 : Env := { P := Tryz.prog, con := env90.con, inl := [96, 103, 109, 116, 130, 136, 135, 115, 114, 113, 69, 84], ann := anns }
theorem env96ok : ConOK env96 := fun g c h => env90ok g c h
-- no contract: 75 (*strings.Builder).WriteByte 
noncomputable def env75 : Env := { P := Tryz.prog, con := env96.con, inl := [75, 96, 103, 109, 116, 130, 136, 135, 115, 114, 113, 69, 84], ann := anns }
theorem env75ok : ConOK env75 := fun g c h => env96ok g c h
-- no contract: 76 (*strings.Builder).String 
noncomputable def env76 : Env := { P := Tryz.prog, con := env75.con, inl := [76, 75, 96, 103, 109, 116, 130, 136, 135, 115, 114, 113, 69, 84], ann := anns }
theorem env76ok : ConOK env76 := fun g c h => env75ok g c h
noncomputable def con92 : Contract := { conOf Tryz.prog 2000 4000 false ((Tryz.prog.funcs[92]?).getD default) with gl := glL }
theorem fn92 : FnOK Tryz.prog 92 con92 := hand92
noncomputable def env92 : Env := { P := Tryz.prog, con := (92, con92) :: env76.con, inl := [76, 75, 96, 103, 109, 116, 130, 136, 135, 115, 114, 113, 69, 84], ann := anns }
theorem env92ok : ConOK env92 := ConOK.cons fn92 env76ok
noncomputable def con52 : Contract := { conOf Tryz.prog 2000 9000 false ((Tryz.prog.funcs[52]?).getD default) with gl := glL }
theorem fn52 : FnOK Tryz.prog 52 con52 := checkFn_ok (env := env92) env92ok (fuel := 200) (vcs := []) (by kernel_rfl)
    (valids_nil)
noncomputable def env52 : Env := { P := Tryz.prog, con := (52, con52) :: env92.con, inl := [76, 75, 96, 103, 109, 116, 130, 136, 135, 115, 114, 113, 69, 84], ann := anns }
theorem env52ok : ConOK env52 := ConOK.cons fn52 env92ok
noncomputable def envL : Env := { P := Tryz.prog, con := env52.con, inl := [76, 75, 96, 103, 109, 116, 130, 136, 135, 115, 114, 113, 69, 84], ann := anns, wa := true }
theorem envLok : ConOK envL := fun g c h => env52ok g c h
theorem call40 : CallOK Tryz.prog 3 9 2000 40 (.seq (.seq (.int .u8) (.seq .bool (.seq (.int .u8) (.seq .bool (.seq (.int .u8) (.seq (.int .u8) (.row 5 (.int .u8)))))))) (.seq (.row 5 (.int .u8)) (.seq (.seq (.int .u8) (.seq .bool (.seq (.int .u8) (.seq .bool (.seq (.int .u8) (.seq (.int .u8) (.row 5 (.int .u8)))))))) (.seq (.seq (.int .u8) (.seq .bool (.seq (.int .u8) (.seq .bool (.seq (.int .u8) (.seq (.int .u8) (.row 5 (.int .u8)))))))) (.seq (.int .u8) (.seq (.int .i64) (.seq (.int .u8) (.int .u8)))))))) glL := by
  refine CallOK.nil (env := envL) envLok (fuel := 200) (vcs := []) ?_ (valids_nil) (by decide) Tryz.func40 Tryz.ntmps40 rfl (by kernel_rfl) rfl
  kernel_rfl
theorem call42 : CallOK Tryz.prog 3 9 2000 42 (.seq (.seq (.int .u8) (.seq .bool (.seq (.int .u8) (.seq .bool (.seq (.int .u8) (.seq (.int .u8) (.row 5 (.int .u8)))))))) (.seq (.row 5 (.int .u8)) (.seq (.seq (.int .u8) (.seq .bool (.seq (.int .u8) (.seq .bool (.seq (.int .u8) (.seq (.int .u8) (.row 5 (.int .u8)))))))) (.seq (.seq (.int .u8) (.seq .bool (.seq (.int .u8) (.seq .bool (.seq (.int .u8) (.seq (.int .u8) (.row 5 (.int .u8)))))))) (.seq (.int .u8) (.seq (.int .i64) (.seq (.int .u8) (.int .u8)))))))) glL := by
  refine CallOK.one (env := envL) envLok (fuel := 200) (dr := (.row 5 (.int .u8))) (vcs := []) ?_ (valids_nil) (by decide) Tryz.func42 Tryz.ntmps42 rfl (by kernel_rfl) build1u build1s build1z rfl rfl clos44
  kernel_rfl
theorem call45 : CallOK Tryz.prog 3 9 2000 45 (.seq (.seq (.int .u8) (.seq .bool (.seq (.int .u8) (.seq .bool (.seq (.int .u8) (.seq (.int .u8) (.row 5 (.int .u8)))))))) (.seq (.row 5 (.int .u8)) (.seq (.seq (.int .u8) (.seq .bool (.seq (.int .u8) (.seq .bool (.seq (.int .u8) (.seq (.int .u8) (.row 5 (.int .u8)))))))) (.seq (.seq (.int .u8) (.seq .bool (.seq (.int .u8) (.seq .bool (.seq (.int .u8) (.seq (.int .u8) (.row 5 (.int .u8)))))))) (.seq (.int .u8) (.seq (.int .i64) (.seq (.int .u8) (.int .u8)))))))) glL := by
  refine CallOK.one (env := envL) envLok (fuel := 200) (dr := (.seq (.int .u8) (.seq .bool (.seq (.int .u8) (.seq .bool (.seq (.int .u8) (.seq (.int .u8) (.row 5 (.int .u8))))))))) (vcs := []) ?_ (valids_nil) (by decide) Tryz.func45 Tryz.ntmps45 rfl (by kernel_rfl) build1u build1s build1z rfl rfl clos47
  kernel_rfl
theorem call49 : CallOK Tryz.prog 3 9 2000 49 (.seq (.seq (.int .u8) (.seq .bool (.seq (.int .u8) (.seq .bool (.seq (.int .u8) (.seq (.int .u8) (.row 5 (.int .u8)))))))) (.seq (.row 5 (.int .u8)) (.seq (.seq (.int .u8) (.seq .bool (.seq (.int .u8) (.seq .bool (.seq (.int .u8) (.seq (.int .u8) (.row 5 (.int .u8)))))))) (.seq (.seq (.int .u8) (.seq .bool (.seq (.int .u8) (.seq .bool (.seq (.int .u8) (.seq (.int .u8) (.row 5 (.int .u8)))))))) (.seq (.int .u8) (.seq (.int .i64) (.seq (.int .u8) (.int .u8)))))))) glL := by
  refine CallOK.nil (env := envL) envLok (fuel := 200) (vcs := []) ?_ (valids_nil) (by decide) Tryz.func49 Tryz.ntmps49 rfl (by kernel_rfl) rfl
  kernel_rfl
theorem call51 : CallOK Tryz.prog 3 9 2000 51 (.seq (.seq (.int .u8) (.seq .bool (.seq (.int .u8) (.seq .bool (.seq (.int .u8) (.seq (.int .u8) (.row 5 (.int .u8)))))))) (.seq (.row 5 (.int .u8)) (.seq (.seq (.int .u8) (.seq .bool (.seq (.int .u8) (.seq .bool (.seq (.int .u8) (.seq (.int .u8) (.row 5 (.int .u8)))))))) (.seq (.seq (.int .u8) (.seq .bool (.seq (.int .u8) (.seq .bool (.seq (.int .u8) (.seq (.int .u8) (.row 5 (.int .u8)))))))) (.seq (.int .u8) (.seq (.int .i64) (.seq (.int .u8) (.int .u8)))))))) glL := by
  refine CallOK.nil (env := envL) envLok (fuel := 200) (vcs := []) ?_ (valids_nil) (by decide) Tryz.func51 Tryz.ntmps51 rfl (by kernel_rfl) rfl
  kernel_rfl

end Go.Sx
