/- Part TitC of a proof: helper lemmas; no conditions. -/
import Derived.Test.YtnnaehcmchndmaaGreatDoorThL
import Derived.Test.YtnnaehcmchndmaaGreatDoorL
import Derived.Test.YtnnaehcmchndmaaGreatDoorTitD
import Derived.Test.YtnnaehcmchndmaaGreatDoorProg
import Derived.KernelRfl

set_option linter.unusedSimpArgs false
set_option linter.unusedVariables false

namespace Go.Sx
open Go Go.Proofs

theorem build1u : Tryz.prog.underlying 45 = some (.slice 55) := Tryz.underlying45
theorem build1s : sizeAt Tryz.prog 55 = some 1 := by kernel_rfl
theorem build1z : zeroAt Tryz.prog 55 = some .nilFunc := by kernel_rfl
-- { law := 6, apart := 89, own := 90, see := 91, calls := [92, 96, 98, 100, 102, 106, 108, 110], ty := 141 }
def anns : List (Nat × Nat × LoopAnn) := []
noncomputable def env0 : Env := { P := Tryz.prog, ann := anns }
theorem env0ok : ConOK env0 := fun _ _ h => nomatch h
noncomputable def con210 : Contract := conOfX Tryz.prog 1099511627776 1099511627776 [] [] [] [(.le (.v 0) (.sub (.c (1099511627791)) (.mul (.c (1099511627776)) (.v 1))))] ((Tryz.prog.funcs[210]?).getD default)
set_option maxRecDepth 100000 in
theorem fn210 : FnOK Tryz.prog 210 con210 := hand210
noncomputable def env210 : Env := { P := Tryz.prog, con := (210, con210) :: env0.con, inl := [], ann := anns }
theorem env210ok : ConOK env210 := ConOK.cons fn210 env0ok
noncomputable def con93 : Contract := conOf Tryz.prog 1099511627776 8 false ((Tryz.prog.funcs[93]?).getD default)
theorem fn93 : FnOK Tryz.prog 93 con93 := checkFn_ok (env := env210) env210ok (fuel := 200) (vcs := [⟨[(.le (.v 0) (.sub (.c (1099511627791)) (.mul (.c (1099511627776)) (.v 1)))), (.eq (.v 1) (.c (1))), (.le (.c (0)) (.v 0)), (.le (.v 0) (.c (1099511627776))), (.le (.c (1)) (.v 1)), (.le (.v 1) (.c (1)))], (.le (.div (.add (.v 0) (.c (1))) (.c (2))) (.div (.add (.v 0) (.c (1))) (.c (2))))⟩,
    ⟨[(.le (.v 0) (.sub (.c (1099511627791)) (.mul (.c (1099511627776)) (.v 1)))), (.eq (.v 1) (.c (1))), (.lt (.v 2) (.div (.add (.v 0) (.c (1))) (.c (2)))), (.lt (.add (.mul (.c (2)) (.v 2)) (.c (1))) (.v 0)), (.le (.c (2)) (.v 0)), (.le (.v 0) (.c (1099511627776))), (.le (.c (1)) (.v 1)), (.le (.v 1) (.c (1))), (.le (.c (0)) (.v 2)), (.le (.v 2) (.c (1099511627776)))], (.lt (.mul (.c (2)) (.v 2)) (.v 0))⟩,
    ⟨[(.le (.v 0) (.sub (.c (1099511627791)) (.mul (.c (1099511627776)) (.v 1)))), (.eq (.v 1) (.c (1))), (.lt (.v 2) (.div (.add (.v 0) (.c (1))) (.c (2)))), (.le (.v 0) (.add (.mul (.c (2)) (.v 2)) (.c (1)))), (.le (.c (0)) (.v 0)), (.le (.v 0) (.c (1099511627776))), (.le (.c (1)) (.v 1)), (.le (.v 1) (.c (1))), (.le (.c (0)) (.v 2)), (.le (.v 2) (.c (1099511627776)))], (.lt (.mul (.c (2)) (.v 2)) (.v 0))⟩,
    ⟨[(.le (.v 0) (.sub (.c (1099511627791)) (.mul (.c (1099511627776)) (.v 1)))), (.eq (.v 1) (.c (1))), (.lt (.v 2) (.div (.add (.v 0) (.c (1))) (.c (2)))), (.lt (.add (.mul (.c (2)) (.v 2)) (.c (1))) (.v 0)), (.le (.c (2)) (.v 0)), (.le (.v 0) (.c (1099511627776))), (.le (.c (1)) (.v 1)), (.le (.v 1) (.c (1))), (.le (.c (0)) (.v 2)), (.le (.v 2) (.c (1099511627776)))], (.le (.c (1)) (.sub (.div (.add (.v 0) (.c (1))) (.c (2))) (.v 2)))⟩,
    ⟨[(.le (.v 0) (.sub (.c (1099511627791)) (.mul (.c (1099511627776)) (.v 1)))), (.eq (.v 1) (.c (1))), (.lt (.v 2) (.div (.add (.v 0) (.c (1))) (.c (2)))), (.lt (.add (.mul (.c (2)) (.v 2)) (.c (1))) (.v 0)), (.le (.c (2)) (.v 0)), (.le (.v 0) (.c (1099511627776))), (.le (.c (1)) (.v 1)), (.le (.v 1) (.c (1))), (.le (.c (0)) (.v 2)), (.le (.v 2) (.c (1099511627776)))], (.lt (.sub (.div (.add (.v 0) (.c (1))) (.c (2))) (.add (.v 2) (.c (1)))) (.sub (.div (.add (.v 0) (.c (1))) (.c (2))) (.v 2)))⟩,
    ⟨[(.le (.v 0) (.sub (.c (1099511627791)) (.mul (.c (1099511627776)) (.v 1)))), (.eq (.v 1) (.c (1))), (.lt (.v 2) (.div (.add (.v 0) (.c (1))) (.c (2)))), (.le (.v 0) (.add (.mul (.c (2)) (.v 2)) (.c (1)))), (.le (.c (0)) (.v 0)), (.le (.v 0) (.c (1099511627776))), (.le (.c (1)) (.v 1)), (.le (.v 1) (.c (1))), (.le (.c (0)) (.v 2)), (.le (.v 2) (.c (1099511627776)))], (.le (.c (1)) (.sub (.div (.add (.v 0) (.c (1))) (.c (2))) (.v 2)))⟩,
    ⟨[(.le (.v 0) (.sub (.c (1099511627791)) (.mul (.c (1099511627776)) (.v 1)))), (.eq (.v 1) (.c (1))), (.lt (.v 2) (.div (.add (.v 0) (.c (1))) (.c (2)))), (.le (.v 0) (.add (.mul (.c (2)) (.v 2)) (.c (1)))), (.le (.c (0)) (.v 0)), (.le (.v 0) (.c (1099511627776))), (.le (.c (1)) (.v 1)), (.le (.v 1) (.c (1))), (.le (.c (0)) (.v 2)), (.le (.v 2) (.c (1099511627776)))], (.lt (.sub (.div (.add (.v 0) (.c (1))) (.c (2))) (.add (.v 2) (.c (1)))) (.sub (.div (.add (.v 0) (.c (1))) (.c (2))) (.v 2)))⟩,
    ⟨[(.le (.v 0) (.sub (.c (1099511627791)) (.mul (.c (1099511627776)) (.v 1)))), (.eq (.v 1) (.c (1))), (.le (.div (.add (.v 0) (.c (1))) (.c (2))) (.v 2)), (.le (.c (0)) (.v 0)), (.le (.v 0) (.c (1099511627776))), (.le (.c (1)) (.v 1)), (.le (.v 1) (.c (1))), (.le (.c (0)) (.v 2)), (.le (.v 2) (.c (9223372036854775807)))], (.le (.div (.add (.v 0) (.c (1))) (.c (2))) (.c (8)))⟩,
    ⟨[(.le (.v 0) (.sub (.c (1099511627791)) (.mul (.c (1099511627776)) (.v 1)))), (.eq (.v 1) (.c (1))), (.le (.div (.add (.v 0) (.c (1))) (.c (2))) (.v 2)), (.le (.c (0)) (.v 0)), (.le (.v 0) (.c (1099511627776))), (.le (.c (1)) (.v 1)), (.le (.v 1) (.c (1))), (.le (.c (0)) (.v 2)), (.le (.v 2) (.c (9223372036854775807)))], (.le (.div (.add (.v 0) (.c (1))) (.c (2))) (.div (.add (.v 0) (.c (1))) (.c (2))))⟩]) (by kernel_rfl)
    (valids_cons (by intro ρ h; first | (simp only [holdsAll, Fm.holds, T.ev] at h ⊢; omega) | (simp [holdsAll, Fm.holds, T.ev] at h ⊢; done) | (simp [holdsAll, Fm.holds, T.ev] at h ⊢; omega))
    (valids_cons (by intro ρ h; first | (simp only [holdsAll, Fm.holds, T.ev] at h ⊢; omega) | (simp [holdsAll, Fm.holds, T.ev] at h ⊢; done) | (simp [holdsAll, Fm.holds, T.ev] at h ⊢; omega))
    (valids_cons (by intro ρ h; first | (simp only [holdsAll, Fm.holds, T.ev] at h ⊢; omega) | (simp [holdsAll, Fm.holds, T.ev] at h ⊢; done) | (simp [holdsAll, Fm.holds, T.ev] at h ⊢; omega))
    (valids_cons (by intro ρ h; first | (simp only [holdsAll, Fm.holds, T.ev] at h ⊢; omega) | (simp [holdsAll, Fm.holds, T.ev] at h ⊢; done) | (simp [holdsAll, Fm.holds, T.ev] at h ⊢; omega))
    (valids_cons (by intro ρ h; first | (simp only [holdsAll, Fm.holds, T.ev] at h ⊢; omega) | (simp [holdsAll, Fm.holds, T.ev] at h ⊢; done) | (simp [holdsAll, Fm.holds, T.ev] at h ⊢; omega))
    (valids_cons (by intro ρ h; first | (simp only [holdsAll, Fm.holds, T.ev] at h ⊢; omega) | (simp [holdsAll, Fm.holds, T.ev] at h ⊢; done) | (simp [holdsAll, Fm.holds, T.ev] at h ⊢; omega))
    (valids_cons (by intro ρ h; first | (simp only [holdsAll, Fm.holds, T.ev] at h ⊢; omega) | (simp [holdsAll, Fm.holds, T.ev] at h ⊢; done) | (simp [holdsAll, Fm.holds, T.ev] at h ⊢; omega))
    (valids_cons (by intro ρ h; first | (simp only [holdsAll, Fm.holds, T.ev] at h ⊢; omega) | (simp [holdsAll, Fm.holds, T.ev] at h ⊢; done) | (simp [holdsAll, Fm.holds, T.ev] at h ⊢; omega))
    (valids_cons (by intro ρ h; first | (simp only [holdsAll, Fm.holds, T.ev] at h ⊢; omega) | (simp [holdsAll, Fm.holds, T.ev] at h ⊢; done) | (simp [holdsAll, Fm.holds, T.ev] at h ⊢; omega))
    (valids_nil))))))))))
noncomputable def env93 : Env := { P := Tryz.prog, con := (93, con93) :: env210.con, inl := [], ann := anns }
theorem env93ok : ConOK env93 := ConOK.cons fn93 env210ok
noncomputable def con97 : Contract := conOf Tryz.prog 1099511627776 15 false ((Tryz.prog.funcs[97]?).getD default)
set_option maxRecDepth 100000 in
theorem fn97 : FnOK Tryz.prog 97 con97 := hand97
noncomputable def env97 : Env := { P := Tryz.prog, con := (97, con97) :: env93.con, inl := [], ann := anns }
theorem env97ok : ConOK env97 := ConOK.cons fn97 env93ok
noncomputable def con99 : Contract := conOf Tryz.prog 1099511627776 10 false ((Tryz.prog.funcs[99]?).getD default)
set_option maxRecDepth 100000 in
theorem fn99 : FnOK Tryz.prog 99 con99 := hand99
noncomputable def env99 : Env := { P := Tryz.prog, con := (99, con99) :: env97.con, inl := [], ann := anns }
theorem env99ok : ConOK env99 := ConOK.cons fn99 env97ok
noncomputable def con215 : Contract := conOf Tryz.prog 1099511627776 10 false ((Tryz.prog.funcs[215]?).getD default)
set_option maxRecDepth 100000 in
theorem fn215 : FnOK Tryz.prog 215 con215 := hand215
noncomputable def env215 : Env := { P := Tryz.prog, con := (215, con215) :: env99.con, inl := [], ann := anns }
theorem env215ok : ConOK env215 := ConOK.cons fn215 env99ok
noncomputable def con101 : Contract := conOf Tryz.prog 1099511627776 1099511627776 false ((Tryz.prog.funcs[101]?).getD default)
theorem fn101 : FnOK Tryz.prog 101 con101 := checkFn_ok (env := env215) env215ok (fuel := 200) (vcs := []) (by kernel_rfl)
    (valids_nil)
noncomputable def env101 : Env := { P := Tryz.prog, con := (101, con101) :: env215.con, inl := [], ann := anns }
theorem env101ok : ConOK env101 := ConOK.cons fn101 env215ok
noncomputable def con103 : Contract := conOf Tryz.prog 1099511627776 10 false ((Tryz.prog.funcs[103]?).getD default)
set_option maxRecDepth 100000 in
theorem fn103 : FnOK Tryz.prog 103 con103 := hand103
noncomputable def env103 : Env := { P := Tryz.prog, con := (103, con103) :: env101.con, inl := [], ann := anns }
theorem env103ok : ConOK env103 := ConOK.cons fn103 env101ok
noncomputable def con107 : Contract := conOf Tryz.prog 1099511627776 1099511627776 false ((Tryz.prog.funcs[107]?).getD default)
theorem fn107 : FnOK Tryz.prog 107 con107 := checkFn_ok (env := env103) env103ok (fuel := 200) (vcs := []) (by kernel_rfl)
    (valids_nil)
noncomputable def env107 : Env := { P := Tryz.prog, con := (107, con107) :: env103.con, inl := [], ann := anns }
theorem env107ok : ConOK env107 := ConOK.cons fn107 env103ok
noncomputable def con109 : Contract := { conOf Tryz.prog 1099511627776 1099511627776 false ((Tryz.prog.funcs[109]?).getD default) with gl := glL }
set_option maxRecDepth 100000 in
theorem fn109 : FnOK Tryz.prog 109 con109 := hand109
noncomputable def env109 : Env := { P := Tryz.prog, con := (109, con109) :: env107.con, inl := [], ann := anns }
theorem env109ok : ConOK env109 := ConOK.cons fn109 env107ok
noncomputable def envL : Env := { P := Tryz.prog, con := env109.con, inl := [], ann := anns, wa := true }
theorem envLok : ConOK envL := fun g c h => env109ok g c h
theorem call92 : CallOK Tryz.prog 3 9 2000 92 (.seq .str (.seq (.row 5 (.int .u8)) (.row 324 (.seq .str (.seq .bool (.seq .str (.seq (.int .u16) (.int .u8)))))))) glL := by
  refine CallOK.one (env := envL) envLok (fuel := 200) (dr := (.row 5 (.int .u8))) (vcs := []) ?_ (valids_nil) (by decide) Tryz.func92 Tryz.ntmps92 rfl (by kernel_rfl) build1u build1s build1z rfl rfl clos94
  kernel_rfl
theorem call96 : CallOK Tryz.prog 3 9 2000 96 (.seq .str (.seq (.row 5 (.int .u8)) (.row 324 (.seq .str (.seq .bool (.seq .str (.seq (.int .u16) (.int .u8)))))))) glL := by
  refine CallOK.nil (env := envL) envLok (fuel := 200) (vcs := []) ?_ (valids_nil) (by decide) Tryz.func96 Tryz.ntmps96 rfl (by kernel_rfl) rfl
  kernel_rfl
theorem call98 : CallOK Tryz.prog 3 9 2000 98 (.seq .str (.seq (.row 5 (.int .u8)) (.row 324 (.seq .str (.seq .bool (.seq .str (.seq (.int .u16) (.int .u8)))))))) glL := by
  refine CallOK.nil (env := envL) envLok (fuel := 200) (vcs := []) ?_ (valids_nil) (by decide) Tryz.func98 Tryz.ntmps98 rfl (by kernel_rfl) rfl
  kernel_rfl
theorem call100 : CallOK Tryz.prog 3 9 2000 100 (.seq .str (.seq (.row 5 (.int .u8)) (.row 324 (.seq .str (.seq .bool (.seq .str (.seq (.int .u16) (.int .u8)))))))) glL := by
  refine CallOK.nil (env := envL) envLok (fuel := 200) (vcs := []) ?_ (valids_nil) (by decide) Tryz.func100 Tryz.ntmps100 rfl (by kernel_rfl) rfl
  kernel_rfl
theorem call102 : CallOK Tryz.prog 3 9 2000 102 (.seq .str (.seq (.row 5 (.int .u8)) (.row 324 (.seq .str (.seq .bool (.seq .str (.seq (.int .u16) (.int .u8)))))))) glL := by
  refine CallOK.one (env := envL) envLok (fuel := 200) (dr := (.strs 9)) (vcs := []) ?_ (valids_nil) (by decide) Tryz.func102 Tryz.ntmps102 rfl (by kernel_rfl) build1u build1s build1z rfl rfl clos104
  kernel_rfl
theorem call106 : CallOK Tryz.prog 3 9 2000 106 (.seq .str (.seq (.row 5 (.int .u8)) (.row 324 (.seq .str (.seq .bool (.seq .str (.seq (.int .u16) (.int .u8)))))))) glL := by
  refine CallOK.nil (env := envL) envLok (fuel := 200) (vcs := []) ?_ (valids_nil) (by decide) Tryz.func106 Tryz.ntmps106 rfl (by kernel_rfl) rfl
  kernel_rfl
theorem call108 : CallOK Tryz.prog 3 9 2000 108 (.seq .str (.seq (.row 5 (.int .u8)) (.row 324 (.seq .str (.seq .bool (.seq .str (.seq (.int .u16) (.int .u8)))))))) glL := by
  refine CallOK.nil (env := envL) envLok (fuel := 200) (vcs := []) ?_ (valids_nil) (by decide) Tryz.func108 Tryz.ntmps108 rfl (by kernel_rfl) rfl
  kernel_rfl
theorem call110 : CallOK Tryz.prog 3 9 2000 110 (.seq .str (.seq (.row 5 (.int .u8)) (.row 324 (.seq .str (.seq .bool (.seq .str (.seq (.int .u16) (.int .u8)))))))) glL := hcall110 clos112

end Go.Sx
