/- Part BitC of a proof: helper lemmas; no conditions. -/
import Derived.Test.YtnpjbhmolemciaaGreatDoorBitJ
import Derived.Test.YtnpjbhmolemciaaGreatDoorL
import Derived.Test.YtnpjbhmolemciaaGreatDoorBitD
import Derived.Test.YtnpjbhmolemciaaGreatDoorProg
import Derived.KernelRfl

namespace Go.Sx
open Go Go.Proofs

theorem build1u : Tryz.prog.underlying 31 = some (.slice 39) := Tryz.underlying31
theorem build1s : sizeAt Tryz.prog 39 = some 1 := by kernel_rfl
theorem build1z : zeroAt Tryz.prog 39 = some .nilFunc := by kernel_rfl
-- { law := 3, apart := 5, own := 6, see := 7, calls := [8, 10, 14, 17, 20, 22, 25, 29, 31, 33], ty := 26 }
def anns : List (Nat × Nat × LoopAnn) := [(11, 0, { ivs := [(3, 0, 8796093022208)], facts := [(.le (.v 1003) (.mul (.c (8)) (.v 12))), (.le (.v 12) (.v 1000))], meas := none, keep := [], peel := 0 }),
  (26, 0, { ivs := [], facts := [(.le (.v 1008) (.v 28)), (.le (.v 28) (.v 1000))], meas := none, keep := [], peel := 0 }),
  (69, 0, { ivs := [], facts := [], meas := none, keep := [], peel := 3 }),
  (69, 2, { ivs := [], facts := [], meas := none, keep := [], peel := 3 })]
noncomputable def env0 : Env := { P := Tryz.prog, ann := anns }
theorem env0ok : ConOK env0 := fun _ _ h => nomatch h
-- no contract: 93 slices.IndexFunc[[]byte,byte] 
noncomputable def env93 : Env := { P := Tryz.prog, con := env0.con, inl := [93], ann := anns }
theorem env93ok : ConOK env93 := fun g c h => env0ok g c h
-- no contract: 63 slices.ContainsFunc[[]byte,byte] 
noncomputable def env63 : Env := { P := Tryz.prog, con := env93.con, inl := [63, 93], ann := anns }
theorem env63ok : ConOK env63 := fun g c h => env93ok g c h
noncomputable def con64 : Contract := conOf Tryz.prog 2000 2000 false ((Tryz.prog.funcs[64]?).getD default)
theorem fn64 : FnOK Tryz.prog 64 con64 := checkFn_ok (env := env63) env63ok (fuel := 200) (vcs := []) (by kernel_rfl)
    (valids_nil)
noncomputable def env64 : Env := { P := Tryz.prog, con := (64, con64) :: env63.con, inl := [63, 93], ann := anns }
theorem env64ok : ConOK env64 := ConOK.cons fn64 env63ok
noncomputable def con9 : Contract := conOf Tryz.prog 2000 2000 false ((Tryz.prog.funcs[9]?).getD default)
theorem fn9 : FnOK Tryz.prog 9 con9 := checkFn_ok (env := env64) env64ok (fuel := 200) (vcs := [⟨[(.le (.v 0) (.v 1)), (.lt (.v 3) (.v 0)), (.le (.c (1)) (.v 0)), (.le (.v 0) (.c (2000))), (.le (.c (0)) (.v 1)), (.le (.v 1) (.c (9223372036854775807))), (.le (.c (0)) (.v 3)), (.le (.v 3) (.c (1999)))], (.le (.c (1)) (.sub (.v 0) (.v 3)))⟩,
    ⟨[(.le (.v 0) (.v 1)), (.lt (.v 3) (.v 0)), (.le (.c (1)) (.v 0)), (.le (.v 0) (.c (2000))), (.le (.c (0)) (.v 1)), (.le (.v 1) (.c (9223372036854775807))), (.le (.c (0)) (.v 3)), (.le (.v 3) (.c (1999)))], (.lt (.sub (.v 0) (.add (.v 3) (.c (1)))) (.sub (.v 0) (.v 3)))⟩]) (by kernel_rfl)
    (valids_cons (by intro ρ h; first | (simp only [holdsAll, Fm.holds, T.ev] at h ⊢; omega) | (simp [holdsAll, Fm.holds, T.ev] at h ⊢; done) | (simp [holdsAll, Fm.holds, T.ev] at h ⊢; omega))
    (valids_cons (by intro ρ h; first | (simp only [holdsAll, Fm.holds, T.ev] at h ⊢; omega) | (simp [holdsAll, Fm.holds, T.ev] at h ⊢; done) | (simp [holdsAll, Fm.holds, T.ev] at h ⊢; omega))
    (valids_nil)))
noncomputable def env9 : Env := { P := Tryz.prog, con := (9, con9) :: env64.con, inl := [63, 93], ann := anns }
theorem env9ok : ConOK env9 := ConOK.cons fn9 env64ok
noncomputable def con65 : Contract := conOfX Tryz.prog 2000 610000 [0] [(1, 0, 70000)] [] [(.eq (.v 2) (.v 1))] ((Tryz.prog.funcs[65]?).getD default)
theorem fn65 : FnOK Tryz.prog 65 con65 := checkFn_ok (env := env9) env9ok (fuel := 200) (vcs := [⟨[(.le (.c (0)) (.v 1)), (.le (.v 1) (.c (70000)))], (.le (.v 1) (.v 1))⟩,
    ⟨[(.lt (.v 2) (.v 1)), (.le (.c (1)) (.v 1)), (.le (.v 1) (.c (70000))), (.le (.c (0)) (.v 2)), (.le (.v 2) (.c (69999)))], (.le (.c (1)) (.sub (.v 1) (.v 2)))⟩,
    ⟨[(.lt (.v 2) (.v 1)), (.le (.c (1)) (.v 1)), (.le (.v 1) (.c (70000))), (.le (.c (0)) (.v 2)), (.le (.v 2) (.c (69999)))], (.lt (.sub (.v 1) (.add (.v 2) (.c (1)))) (.sub (.v 1) (.v 2)))⟩,
    ⟨[(.le (.v 1) (.v 2)), (.le (.c (0)) (.v 1)), (.le (.v 1) (.c (70000))), (.le (.c (0)) (.v 2)), (.le (.v 2) (.c (9223372036854775807)))], (.le (.v 1) (.v 1))⟩]) (by kernel_rfl)
    (valids_cons (by intro ρ h; first | (simp only [holdsAll, Fm.holds, T.ev] at h ⊢; omega) | (simp [holdsAll, Fm.holds, T.ev] at h ⊢; done) | (simp [holdsAll, Fm.holds, T.ev] at h ⊢; omega))
    (valids_cons (by intro ρ h; first | (simp only [holdsAll, Fm.holds, T.ev] at h ⊢; omega) | (simp [holdsAll, Fm.holds, T.ev] at h ⊢; done) | (simp [holdsAll, Fm.holds, T.ev] at h ⊢; omega))
    (valids_cons (by intro ρ h; first | (simp only [holdsAll, Fm.holds, T.ev] at h ⊢; omega) | (simp [holdsAll, Fm.holds, T.ev] at h ⊢; done) | (simp [holdsAll, Fm.holds, T.ev] at h ⊢; omega))
    (valids_cons (by intro ρ h; first | (simp only [holdsAll, Fm.holds, T.ev] at h ⊢; omega) | (simp [holdsAll, Fm.holds, T.ev] at h ⊢; done) | (simp [holdsAll, Fm.holds, T.ev] at h ⊢; omega))
    (valids_nil)))))
noncomputable def env65 : Env := { P := Tryz.prog, con := (65, con65) :: env9.con, inl := [63, 93], ann := anns }
theorem env65ok : ConOK env65 := ConOK.cons fn65 env9ok
noncomputable def con11 : Contract := conOf Tryz.prog 2000 42000 false ((Tryz.prog.funcs[11]?).getD default)
theorem fn11 : FnOK Tryz.prog 11 con11 := checkFn_ok (env := env65) env65ok (fuel := 200) (vcs := [⟨[(.le (.v 0) (.v 1)), (.le (.v 2) (.v 3)), (.le (.v 2) (.mul (.c (8)) (.v 4))), (.le (.v 4) (.v 0)), (.lt (.v 4) (.v 0)), (.le (.v 6) (.v 7)), (.eq (.v 6) (.c (8))), (.le (.add (.v 2) (.v 6)) (.v 8)), (.le (.c (1)) (.v 0)), (.le (.v 0) (.c (2000))), (.le (.c (0)) (.v 1)), (.le (.v 1) (.c (9223372036854775807))), (.le (.c (0)) (.v 2)), (.le (.v 2) (.c (8796093022208))), (.le (.c (0)) (.v 3)), (.le (.v 3) (.c (9223372036854775807))), (.le (.c (0)) (.v 4)), (.le (.v 4) (.c (1999))), (.le (.c (0)) (.v 6)), (.le (.v 6) (.c (610000))), (.le (.c (0)) (.v 7)), (.le (.v 7) (.c (9223372036854775807))), (.le (.c (0)) (.v 8)), (.le (.v 8) (.c (9223372036854775807)))], (.le (.add (.v 2) (.v 6)) (.mul (.c (8)) (.add (.v 4) (.c (1)))))⟩,
    ⟨[(.le (.v 0) (.v 1)), (.le (.v 2) (.v 3)), (.le (.v 2) (.mul (.c (8)) (.v 4))), (.le (.v 4) (.v 0)), (.lt (.v 4) (.v 0)), (.le (.v 6) (.v 7)), (.eq (.v 6) (.c (8))), (.le (.add (.v 2) (.v 6)) (.v 8)), (.le (.c (1)) (.v 0)), (.le (.v 0) (.c (2000))), (.le (.c (0)) (.v 1)), (.le (.v 1) (.c (9223372036854775807))), (.le (.c (0)) (.v 2)), (.le (.v 2) (.c (8796093022208))), (.le (.c (0)) (.v 3)), (.le (.v 3) (.c (9223372036854775807))), (.le (.c (0)) (.v 4)), (.le (.v 4) (.c (1999))), (.le (.c (0)) (.v 6)), (.le (.v 6) (.c (610000))), (.le (.c (0)) (.v 7)), (.le (.v 7) (.c (9223372036854775807))), (.le (.c (0)) (.v 8)), (.le (.v 8) (.c (9223372036854775807)))], (.le (.add (.v 4) (.c (1))) (.v 0))⟩,
    ⟨[(.le (.v 0) (.v 1)), (.le (.v 2) (.v 3)), (.le (.v 2) (.mul (.c (8)) (.v 4))), (.le (.v 4) (.v 0)), (.lt (.v 4) (.v 0)), (.le (.v 6) (.v 7)), (.eq (.v 6) (.c (8))), (.le (.add (.v 2) (.v 6)) (.v 8)), (.le (.c (1)) (.v 0)), (.le (.v 0) (.c (2000))), (.le (.c (0)) (.v 1)), (.le (.v 1) (.c (9223372036854775807))), (.le (.c (0)) (.v 2)), (.le (.v 2) (.c (8796093022208))), (.le (.c (0)) (.v 3)), (.le (.v 3) (.c (9223372036854775807))), (.le (.c (0)) (.v 4)), (.le (.v 4) (.c (1999))), (.le (.c (0)) (.v 6)), (.le (.v 6) (.c (610000))), (.le (.c (0)) (.v 7)), (.le (.v 7) (.c (9223372036854775807))), (.le (.c (0)) (.v 8)), (.le (.v 8) (.c (9223372036854775807)))], (.le (.add (.v 2) (.v 6)) (.c (8796093022208)))⟩,
    ⟨[(.le (.v 0) (.v 1)), (.le (.v 2) (.v 3)), (.le (.v 2) (.mul (.c (8)) (.v 4))), (.le (.v 4) (.v 0)), (.lt (.v 4) (.v 0)), (.le (.v 6) (.v 7)), (.eq (.v 6) (.c (8))), (.le (.add (.v 2) (.v 6)) (.v 8)), (.le (.c (1)) (.v 0)), (.le (.v 0) (.c (2000))), (.le (.c (0)) (.v 1)), (.le (.v 1) (.c (9223372036854775807))), (.le (.c (0)) (.v 2)), (.le (.v 2) (.c (8796093022208))), (.le (.c (0)) (.v 3)), (.le (.v 3) (.c (9223372036854775807))), (.le (.c (0)) (.v 4)), (.le (.v 4) (.c (1999))), (.le (.c (0)) (.v 6)), (.le (.v 6) (.c (610000))), (.le (.c (0)) (.v 7)), (.le (.v 7) (.c (9223372036854775807))), (.le (.c (0)) (.v 8)), (.le (.v 8) (.c (9223372036854775807)))], (.le (.c (1)) (.sub (.v 0) (.v 4)))⟩,
    ⟨[(.le (.v 0) (.v 1)), (.le (.v 2) (.v 3)), (.le (.v 2) (.mul (.c (8)) (.v 4))), (.le (.v 4) (.v 0)), (.lt (.v 4) (.v 0)), (.le (.v 6) (.v 7)), (.eq (.v 6) (.c (8))), (.le (.add (.v 2) (.v 6)) (.v 8)), (.le (.c (1)) (.v 0)), (.le (.v 0) (.c (2000))), (.le (.c (0)) (.v 1)), (.le (.v 1) (.c (9223372036854775807))), (.le (.c (0)) (.v 2)), (.le (.v 2) (.c (8796093022208))), (.le (.c (0)) (.v 3)), (.le (.v 3) (.c (9223372036854775807))), (.le (.c (0)) (.v 4)), (.le (.v 4) (.c (1999))), (.le (.c (0)) (.v 6)), (.le (.v 6) (.c (610000))), (.le (.c (0)) (.v 7)), (.le (.v 7) (.c (9223372036854775807))), (.le (.c (0)) (.v 8)), (.le (.v 8) (.c (9223372036854775807)))], (.lt (.sub (.v 0) (.add (.v 4) (.c (1)))) (.sub (.v 0) (.v 4)))⟩,
    ⟨[(.le (.v 0) (.v 1)), (.le (.v 2) (.v 3)), (.le (.v 2) (.mul (.c (8)) (.v 4))), (.le (.v 4) (.v 0)), (.le (.v 0) (.v 4)), (.le (.c (0)) (.v 0)), (.le (.v 0) (.c (2000))), (.le (.c (0)) (.v 1)), (.le (.v 1) (.c (9223372036854775807))), (.le (.c (0)) (.v 2)), (.le (.v 2) (.c (8796093022208))), (.le (.c (0)) (.v 3)), (.le (.v 3) (.c (9223372036854775807))), (.le (.c (0)) (.v 4)), (.le (.v 4) (.c (2000)))], (.le (.v 2) (.c (42000)))⟩]) (by kernel_rfl)
    (valids_cons (by intro ρ h; first | (simp only [holdsAll, Fm.holds, T.ev] at h ⊢; omega) | (simp [holdsAll, Fm.holds, T.ev] at h ⊢; done) | (simp [holdsAll, Fm.holds, T.ev] at h ⊢; omega))
    (valids_cons (by intro ρ h; first | (simp only [holdsAll, Fm.holds, T.ev] at h ⊢; omega) | (simp [holdsAll, Fm.holds, T.ev] at h ⊢; done) | (simp [holdsAll, Fm.holds, T.ev] at h ⊢; omega))
    (valids_cons (by intro ρ h; first | (simp only [holdsAll, Fm.holds, T.ev] at h ⊢; omega) | (simp [holdsAll, Fm.holds, T.ev] at h ⊢; done) | (simp [holdsAll, Fm.holds, T.ev] at h ⊢; omega))
    (valids_cons (by intro ρ h; first | (simp only [holdsAll, Fm.holds, T.ev] at h ⊢; omega) | (simp [holdsAll, Fm.holds, T.ev] at h ⊢; done) | (simp [holdsAll, Fm.holds, T.ev] at h ⊢; omega))
    (valids_cons (by intro ρ h; first | (simp only [holdsAll, Fm.holds, T.ev] at h ⊢; omega) | (simp [holdsAll, Fm.holds, T.ev] at h ⊢; done) | (simp [holdsAll, Fm.holds, T.ev] at h ⊢; omega))
    (valids_cons (by intro ρ h; first | (simp only [holdsAll, Fm.holds, T.ev] at h ⊢; omega) | (simp [holdsAll, Fm.holds, T.ev] at h ⊢; done) | (simp [holdsAll, Fm.holds, T.ev] at h ⊢; omega))
    (valids_nil)))))))
noncomputable def env11 : Env := { P := Tryz.prog, con := (11, con11) :: env65.con, inl := [63, 93], ann := anns }
theorem env11ok : ConOK env11 := ConOK.cons fn11 env65ok
noncomputable def con67 : Contract := conOf Tryz.prog 2000 2000 false ((Tryz.prog.funcs[67]?).getD default)
theorem fn67 : FnOK Tryz.prog 67 con67 := checkFn_ok (env := env11) env11ok (fuel := 200) (vcs := [⟨[(.le (.v 0) (.v 1)), (.lt (.v 3) (.v 0)), (.le (.c (1)) (.v 0)), (.le (.v 0) (.c (2000))), (.le (.c (0)) (.v 1)), (.le (.v 1) (.c (9223372036854775807))), (.le (.c (0)) (.v 3)), (.le (.v 3) (.c (1999)))], (.le (.c (1)) (.sub (.v 0) (.v 3)))⟩,
    ⟨[(.le (.v 0) (.v 1)), (.lt (.v 3) (.v 0)), (.le (.c (1)) (.v 0)), (.le (.v 0) (.c (2000))), (.le (.c (0)) (.v 1)), (.le (.v 1) (.c (9223372036854775807))), (.le (.c (0)) (.v 3)), (.le (.v 3) (.c (1999)))], (.lt (.sub (.v 0) (.add (.v 3) (.c (1)))) (.sub (.v 0) (.v 3)))⟩]) (by kernel_rfl)
    (valids_cons (by intro ρ h; first | (simp only [holdsAll, Fm.holds, T.ev] at h ⊢; omega) | (simp [holdsAll, Fm.holds, T.ev] at h ⊢; done) | (simp [holdsAll, Fm.holds, T.ev] at h ⊢; omega))
    (valids_cons (by intro ρ h; first | (simp only [holdsAll, Fm.holds, T.ev] at h ⊢; omega) | (simp [holdsAll, Fm.holds, T.ev] at h ⊢; done) | (simp [holdsAll, Fm.holds, T.ev] at h ⊢; omega))
    (valids_nil)))
noncomputable def env67 : Env := { P := Tryz.prog, con := (67, con67) :: env11.con, inl := [63, 93], ann := anns }
theorem env67ok : ConOK env67 := ConOK.cons fn67 env11ok
noncomputable def con15 : Contract := conOf Tryz.prog 2000 2000 false ((Tryz.prog.funcs[15]?).getD default)
theorem fn15 : FnOK Tryz.prog 15 con15 := checkFn_ok (env := env67) env67ok (fuel := 200) (vcs := [⟨[(.le (.v 0) (.v 1)), (.eq (.mod (.v 0) (.c (8))) (.c (0))), (.le (.c (0)) (.v 0)), (.le (.v 0) (.c (2000))), (.le (.c (0)) (.v 1)), (.le (.v 1) (.c (9223372036854775807)))], (.le (.div (.v 0) (.c (8))) (.div (.v 0) (.c (8))))⟩,
    ⟨[(.le (.v 0) (.v 1)), (.eq (.mod (.v 0) (.c (8))) (.c (0))), (.lt (.v 3) (.div (.v 0) (.c (8)))), (.le (.c (0)) (.v 0)), (.le (.v 0) (.c (2000))), (.le (.c (0)) (.v 1)), (.le (.v 1) (.c (9223372036854775807))), (.le (.c (0)) (.v 3)), (.le (.v 3) (.c (1999)))], (.le (.mul (.c (8)) (.add (.v 3) (.c (1)))) (.v 1))⟩,
    ⟨[(.le (.v 0) (.v 1)), (.eq (.mod (.v 0) (.c (8))) (.c (0))), (.lt (.v 3) (.div (.v 0) (.c (8)))), (.le (.c (0)) (.v 0)), (.le (.v 0) (.c (2000))), (.le (.c (0)) (.v 1)), (.le (.v 1) (.c (9223372036854775807))), (.le (.c (0)) (.v 3)), (.le (.v 3) (.c (1999)))], (.le (.mul (.c (8)) (.v 3)) (.mul (.c (8)) (.add (.v 3) (.c (1)))))⟩,
    ⟨[(.le (.v 0) (.v 1)), (.eq (.mod (.v 0) (.c (8))) (.c (0))), (.lt (.v 3) (.div (.v 0) (.c (8)))), (.le (.c (0)) (.v 0)), (.le (.v 0) (.c (2000))), (.le (.c (0)) (.v 1)), (.le (.v 1) (.c (9223372036854775807))), (.le (.c (0)) (.v 3)), (.le (.v 3) (.c (1999)))], (.le (.c (0)) (.sub (.mul (.c (8)) (.add (.v 3) (.c (1)))) (.mul (.c (8)) (.v 3))))⟩,
    ⟨[(.le (.v 0) (.v 1)), (.eq (.mod (.v 0) (.c (8))) (.c (0))), (.lt (.v 3) (.div (.v 0) (.c (8)))), (.le (.c (0)) (.v 0)), (.le (.v 0) (.c (2000))), (.le (.c (0)) (.v 1)), (.le (.v 1) (.c (9223372036854775807))), (.le (.c (0)) (.v 3)), (.le (.v 3) (.c (1999)))], (.le (.sub (.mul (.c (8)) (.add (.v 3) (.c (1)))) (.mul (.c (8)) (.v 3))) (.c (2000)))⟩,
    ⟨[(.le (.v 0) (.v 1)), (.eq (.mod (.v 0) (.c (8))) (.c (0))), (.lt (.v 3) (.div (.v 0) (.c (8)))), (.le (.c (0)) (.v 0)), (.le (.v 0) (.c (2000))), (.le (.c (0)) (.v 1)), (.le (.v 1) (.c (9223372036854775807))), (.le (.c (0)) (.v 3)), (.le (.v 3) (.c (1999)))], (.le (.c (0)) (.sub (.v 1) (.mul (.c (8)) (.v 3))))⟩,
    ⟨[(.le (.v 0) (.v 1)), (.eq (.mod (.v 0) (.c (8))) (.c (0))), (.lt (.v 3) (.div (.v 0) (.c (8)))), (.le (.c (0)) (.v 0)), (.le (.v 0) (.c (2000))), (.le (.c (0)) (.v 1)), (.le (.v 1) (.c (9223372036854775807))), (.le (.c (0)) (.v 3)), (.le (.v 3) (.c (1999)))], (.le (.sub (.mul (.c (8)) (.add (.v 3) (.c (1)))) (.mul (.c (8)) (.v 3))) (.sub (.v 1) (.mul (.c (8)) (.v 3))))⟩,
    ⟨[(.le (.v 0) (.v 1)), (.eq (.mod (.v 0) (.c (8))) (.c (0))), (.lt (.v 3) (.div (.v 0) (.c (8)))), (.le (.c (0)) (.v 0)), (.le (.v 0) (.c (2000))), (.le (.c (0)) (.v 1)), (.le (.v 1) (.c (9223372036854775807))), (.le (.c (0)) (.v 3)), (.le (.v 3) (.c (1999)))], (.le (.c (1)) (.sub (.div (.v 0) (.c (8))) (.v 3)))⟩,
    ⟨[(.le (.v 0) (.v 1)), (.eq (.mod (.v 0) (.c (8))) (.c (0))), (.lt (.v 3) (.div (.v 0) (.c (8)))), (.le (.c (0)) (.v 0)), (.le (.v 0) (.c (2000))), (.le (.c (0)) (.v 1)), (.le (.v 1) (.c (9223372036854775807))), (.le (.c (0)) (.v 3)), (.le (.v 3) (.c (1999)))], (.lt (.sub (.div (.v 0) (.c (8))) (.add (.v 3) (.c (1)))) (.sub (.div (.v 0) (.c (8))) (.v 3)))⟩,
    ⟨[(.le (.v 0) (.v 1)), (.eq (.mod (.v 0) (.c (8))) (.c (0))), (.le (.div (.v 0) (.c (8))) (.v 3)), (.le (.c (0)) (.v 0)), (.le (.v 0) (.c (2000))), (.le (.c (0)) (.v 1)), (.le (.v 1) (.c (9223372036854775807))), (.le (.c (0)) (.v 3)), (.le (.v 3) (.c (9223372036854775807)))], (.le (.div (.v 0) (.c (8))) (.div (.v 0) (.c (8))))⟩]) (by kernel_rfl)
    (valids_cons (by intro ρ h; first | (simp only [holdsAll, Fm.holds, T.ev] at h ⊢; omega) | (simp [holdsAll, Fm.holds, T.ev] at h ⊢; done) | (simp [holdsAll, Fm.holds, T.ev] at h ⊢; omega))
    (valids_cons (by intro ρ h; first | (simp only [holdsAll, Fm.holds, T.ev] at h ⊢; omega) | (simp [holdsAll, Fm.holds, T.ev] at h ⊢; done) | (simp [holdsAll, Fm.holds, T.ev] at h ⊢; omega))
    (valids_cons (by intro ρ h; first | (simp only [holdsAll, Fm.holds, T.ev] at h ⊢; omega) | (simp [holdsAll, Fm.holds, T.ev] at h ⊢; done) | (simp [holdsAll, Fm.holds, T.ev] at h ⊢; omega))
    (valids_cons (by intro ρ h; first | (simp only [holdsAll, Fm.holds, T.ev] at h ⊢; omega) | (simp [holdsAll, Fm.holds, T.ev] at h ⊢; done) | (simp [holdsAll, Fm.holds, T.ev] at h ⊢; omega))
    (valids_cons (by intro ρ h; first | (simp only [holdsAll, Fm.holds, T.ev] at h ⊢; omega) | (simp [holdsAll, Fm.holds, T.ev] at h ⊢; done) | (simp [holdsAll, Fm.holds, T.ev] at h ⊢; omega))
    (valids_cons (by intro ρ h; first | (simp only [holdsAll, Fm.holds, T.ev] at h ⊢; omega) | (simp [holdsAll, Fm.holds, T.ev] at h ⊢; done) | (simp [holdsAll, Fm.holds, T.ev] at h ⊢; omega))
    (valids_cons (by intro ρ h; first | (simp only [holdsAll, Fm.holds, T.ev] at h ⊢; omega) | (simp [holdsAll, Fm.holds, T.ev] at h ⊢; done) | (simp [holdsAll, Fm.holds, T.ev] at h ⊢; omega))
    (valids_cons (by intro ρ h; first | (simp only [holdsAll, Fm.holds, T.ev] at h ⊢; omega) | (simp [holdsAll, Fm.holds, T.ev] at h ⊢; done) | (simp [holdsAll, Fm.holds, T.ev] at h ⊢; omega))
    (valids_cons (by intro ρ h; first | (simp only [holdsAll, Fm.holds, T.ev] at h ⊢; omega) | (simp [holdsAll, Fm.holds, T.ev] at h ⊢; done) | (simp [holdsAll, Fm.holds, T.ev] at h ⊢; omega))
    (valids_cons (by intro ρ h; first | (simp only [holdsAll, Fm.holds, T.ev] at h ⊢; omega) | (simp [holdsAll, Fm.holds, T.ev] at h ⊢; done) | (simp [holdsAll, Fm.holds, T.ev] at h ⊢; omega))
    (valids_nil)))))))))))
noncomputable def env15 : Env := { P := Tryz.prog, con := (15, con15) :: env67.con, inl := [63, 93], ann := anns }
theorem env15ok : ConOK env15 := ConOK.cons fn15 env67ok
noncomputable def con94 : Contract := conOfI Tryz.prog 2000 2000 true 70000 ((Tryz.prog.funcs[94]?).getD default)
theorem fn94 : FnOK Tryz.prog 94 con94 := checkFn_ok (env := env15) env15ok (fuel := 200) (vcs := [⟨[(.le (.v 0) (.v 1)), (.lt (.c (0)) (.sub (.v 2) (.sub (.v 1) (.v 0)))), (.le (.c (0)) (.v 0)), (.le (.v 0) (.c (2000))), (.le (.c (0)) (.v 1)), (.le (.v 1) (.c (9223372036854775807))), (.le (.c (0)) (.v 2)), (.le (.v 2) (.c (70000)))], (.le (.v 1) (.v 1))⟩,
    ⟨[(.le (.v 0) (.v 1)), (.lt (.c (0)) (.sub (.v 2) (.sub (.v 1) (.v 0)))), (.le (.c (0)) (.v 0)), (.le (.v 0) (.c (2000))), (.le (.c (0)) (.v 1)), (.le (.v 1) (.c (9223372036854775807))), (.le (.c (0)) (.v 2)), (.le (.v 2) (.c (70000)))], (.le (.c (0)) (.sub (.v 2) (.sub (.v 1) (.v 0))))⟩,
    ⟨[(.le (.v 0) (.v 1)), (.lt (.c (0)) (.sub (.v 2) (.sub (.v 1) (.v 0)))), (.le (.c (0)) (.v 0)), (.le (.v 0) (.c (2000))), (.le (.c (0)) (.v 1)), (.le (.v 1) (.c (9223372036854775807))), (.le (.c (0)) (.v 2)), (.le (.v 2) (.c (70000)))], (.le (.add (.v 1) (.sub (.v 2) (.sub (.v 1) (.v 0)))) (.c (140737488355328)))⟩,
    ⟨[(.le (.v 0) (.v 1)), (.lt (.c (0)) (.sub (.v 2) (.sub (.v 1) (.v 0)))), (.le (.c (0)) (.v 0)), (.le (.v 0) (.c (2000))), (.le (.c (0)) (.v 1)), (.le (.v 1) (.c (9223372036854775807))), (.le (.c (0)) (.v 2)), (.le (.v 2) (.c (70000)))], (.le (.add (.v 1) (.sub (.v 2) (.sub (.v 1) (.v 0)))) (.c (9223372036854775807)))⟩,
    ⟨[(.le (.v 0) (.v 1)), (.lt (.c (0)) (.sub (.v 2) (.sub (.v 1) (.v 0)))), (.le (.add (.v 1) (.sub (.v 2) (.sub (.v 1) (.v 0)))) (.v 3)), (.le (.c (0)) (.v 0)), (.le (.v 0) (.c (2000))), (.le (.c (0)) (.v 1)), (.le (.v 1) (.c (9223372036854775807))), (.le (.c (0)) (.v 2)), (.le (.v 2) (.c (70000))), (.le (.c (0)) (.v 3)), (.le (.v 3) (.c (9223372036854775807)))], (.le (.v 0) (.v 3))⟩,
    ⟨[(.le (.v 0) (.v 1)), (.lt (.c (0)) (.sub (.v 2) (.sub (.v 1) (.v 0)))), (.le (.add (.v 1) (.sub (.v 2) (.sub (.v 1) (.v 0)))) (.v 3)), (.le (.c (0)) (.v 0)), (.le (.v 0) (.c (2000))), (.le (.c (0)) (.v 1)), (.le (.v 1) (.c (9223372036854775807))), (.le (.c (0)) (.v 2)), (.le (.v 2) (.c (70000))), (.le (.c (0)) (.v 3)), (.le (.v 3) (.c (9223372036854775807)))], (.le (.v 0) (.v 3))⟩]) (by kernel_rfl)
    (valids_cons (by intro ρ h; first | (simp only [holdsAll, Fm.holds, T.ev] at h ⊢; omega) | (simp [holdsAll, Fm.holds, T.ev] at h ⊢; done) | (simp [holdsAll, Fm.holds, T.ev] at h ⊢; omega))
    (valids_cons (by intro ρ h; first | (simp only [holdsAll, Fm.holds, T.ev] at h ⊢; omega) | (simp [holdsAll, Fm.holds, T.ev] at h ⊢; done) | (simp [holdsAll, Fm.holds, T.ev] at h ⊢; omega))
    (valids_cons (by intro ρ h; first | (simp only [holdsAll, Fm.holds, T.ev] at h ⊢; omega) | (simp [holdsAll, Fm.holds, T.ev] at h ⊢; done) | (simp [holdsAll, Fm.holds, T.ev] at h ⊢; omega))
    (valids_cons (by intro ρ h; first | (simp only [holdsAll, Fm.holds, T.ev] at h ⊢; omega) | (simp [holdsAll, Fm.holds, T.ev] at h ⊢; done) | (simp [holdsAll, Fm.holds, T.ev] at h ⊢; omega))
    (valids_cons (by intro ρ h; first | (simp only [holdsAll, Fm.holds, T.ev] at h ⊢; omega) | (simp [holdsAll, Fm.holds, T.ev] at h ⊢; done) | (simp [holdsAll, Fm.holds, T.ev] at h ⊢; omega))
    (valids_cons (by intro ρ h; first | (simp only [holdsAll, Fm.holds, T.ev] at h ⊢; omega) | (simp [holdsAll, Fm.holds, T.ev] at h ⊢; done) | (simp [holdsAll, Fm.holds, T.ev] at h ⊢; omega))
    (valids_nil)))))))
noncomputable def env94 : Env := { P := Tryz.prog, con := (94, con94) :: env15.con, inl := [63, 93], ann := anns }
theorem env94ok : ConOK env94 := ConOK.cons fn94 env15ok
-- no contract: 69 slices.Concat[[]byte,byte] 
noncomputable def env69 : Env := { P := Tryz.prog, con := env94.con, inl := [69, 63, 93], ann := anns }
theorem env69ok : ConOK env69 := fun g c h => env94ok g c h
noncomputable def con68 : Contract := conOfX Tryz.prog 20000000000000 20000000000000 [0] [] [] [(.eq (.v 2) (.v 0))] ((Tryz.prog.funcs[68]?).getD default)
theorem fn68 : FnOK Tryz.prog 68 con68 := checkFn_ok (env := env69) env69ok (fuel := 200) (vcs := [⟨[(.le (.v 0) (.v 1)), (.le (.c (0)) (.v 0)), (.le (.v 0) (.c (20000000000000))), (.le (.c (0)) (.v 1)), (.le (.v 1) (.c (9223372036854775807)))], (.le (.v 0) (.v 0))⟩,
    ⟨[(.le (.v 0) (.v 1)), (.le (.c (0)) (.v 0)), (.le (.v 0) (.c (20000000000000))), (.le (.c (0)) (.v 1)), (.le (.v 1) (.c (9223372036854775807)))], (.le (.v 0) (.v 0))⟩]) (by kernel_rfl)
    (valids_cons (by intro ρ h; first | (simp only [holdsAll, Fm.holds, T.ev] at h ⊢; omega) | (simp [holdsAll, Fm.holds, T.ev] at h ⊢; done) | (simp [holdsAll, Fm.holds, T.ev] at h ⊢; omega))
    (valids_cons (by intro ρ h; first | (simp only [holdsAll, Fm.holds, T.ev] at h ⊢; omega) | (simp [holdsAll, Fm.holds, T.ev] at h ⊢; done) | (simp [holdsAll, Fm.holds, T.ev] at h ⊢; omega))
    (valids_nil)))
noncomputable def env68 : Env := { P := Tryz.prog, con := (68, con68) :: env69.con, inl := [69, 63, 93], ann := anns }
theorem env68ok : ConOK env68 := ConOK.cons fn68 env69ok
noncomputable def con18 : Contract := conOf Tryz.prog 2000 4100 false ((Tryz.prog.funcs[18]?).getD default)
theorem fn18 : FnOK Tryz.prog 18 con18 := checkFn_ok (env := env68) env68ok (fuel := 200) (vcs := [⟨[(.le (.v 0) (.v 1)), (.le (.c (0)) (.v 3)), (.le (.v 3) (.c (64))), (.lt (.v 3) (.c (64))), (.le (.v 6) (.v 7)), (.eq (.v 6) (.v 3)), (.le (.c (0)) (.v 0)), (.le (.v 0) (.c (2000))), (.le (.c (0)) (.v 1)), (.le (.v 1) (.c (9223372036854775807))), (.le (.c (0)) (.v 3)), (.le (.v 3) (.c (63))), (.le (.c (0)) (.v 6)), (.le (.v 6) (.c (610000))), (.le (.c (0)) (.v 7)), (.le (.v 7) (.c (9223372036854775807)))], (.le (.add (.v 0) (.v 6)) (.c (70000)))⟩,
    ⟨[(.le (.v 0) (.v 1)), (.le (.c (0)) (.v 3)), (.le (.v 3) (.c (64))), (.le (.c (64)) (.v 3)), (.le (.v 5) (.v 6)), (.eq (.v 5) (.v 3)), (.le (.c (0)) (.v 0)), (.le (.v 0) (.c (2000))), (.le (.c (0)) (.v 1)), (.le (.v 1) (.c (9223372036854775807))), (.le (.c (64)) (.v 3)), (.le (.v 3) (.c (64))), (.le (.c (0)) (.v 5)), (.le (.v 5) (.c (610000))), (.le (.c (0)) (.v 6)), (.le (.v 6) (.c (9223372036854775807)))], (.le (.add (.v 0) (.v 5)) (.c (70000)))⟩,
    ⟨[(.le (.v 0) (.v 1)), (.le (.c (0)) (.v 3)), (.le (.v 3) (.c (64))), (.lt (.v 3) (.c (64))), (.le (.v 6) (.v 7)), (.eq (.v 6) (.v 3)), (.le (.v 9) (.v 10)), (.le (.add (.v 9) (.v 0)) (.v 11)), (.le (.add (.add (.v 9) (.v 0)) (.v 6)) (.v 12)), (.le (.v 13) (.v 14)), (.eq (.v 13) (.add (.add (.v 9) (.v 0)) (.v 6))), (.le (.c (0)) (.v 0)), (.le (.v 0) (.c (2000))), (.le (.c (0)) (.v 1)), (.le (.v 1) (.c (9223372036854775807))), (.le (.c (0)) (.v 3)), (.le (.v 3) (.c (63))), (.le (.c (0)) (.v 6)), (.le (.v 6) (.c (610000))), (.le (.c (0)) (.v 7)), (.le (.v 7) (.c (9223372036854775807))), (.le (.c (0)) (.v 9)), (.le (.v 9) (.c (2000))), (.le (.c (0)) (.v 10)), (.le (.v 10) (.c (9223372036854775807))), (.le (.c (0)) (.v 11)), (.le (.v 11) (.c (9223372036854775807))), (.le (.c (0)) (.v 12)), (.le (.v 12) (.c (9223372036854775807))), (.le (.c (0)) (.v 13)), (.le (.v 13) (.c (20000000000000))), (.le (.c (0)) (.v 14)), (.le (.v 14) (.c (9223372036854775807)))], (.le (.v 13) (.c (4100)))⟩,
    ⟨[(.le (.v 0) (.v 1)), (.le (.c (0)) (.v 3)), (.le (.v 3) (.c (64))), (.le (.c (64)) (.v 3)), (.le (.v 5) (.v 6)), (.eq (.v 5) (.v 3)), (.le (.v 8) (.v 9)), (.le (.add (.v 8) (.v 0)) (.v 10)), (.le (.add (.add (.v 8) (.v 0)) (.v 5)) (.v 11)), (.le (.v 12) (.v 13)), (.eq (.v 12) (.add (.add (.v 8) (.v 0)) (.v 5))), (.le (.c (0)) (.v 0)), (.le (.v 0) (.c (2000))), (.le (.c (0)) (.v 1)), (.le (.v 1) (.c (9223372036854775807))), (.le (.c (64)) (.v 3)), (.le (.v 3) (.c (64))), (.le (.c (0)) (.v 5)), (.le (.v 5) (.c (610000))), (.le (.c (0)) (.v 6)), (.le (.v 6) (.c (9223372036854775807))), (.le (.c (0)) (.v 8)), (.le (.v 8) (.c (2000))), (.le (.c (0)) (.v 9)), (.le (.v 9) (.c (9223372036854775807))), (.le (.c (0)) (.v 10)), (.le (.v 10) (.c (9223372036854775807))), (.le (.c (0)) (.v 11)), (.le (.v 11) (.c (9223372036854775807))), (.le (.c (0)) (.v 12)), (.le (.v 12) (.c (20000000000000))), (.le (.c (0)) (.v 13)), (.le (.v 13) (.c (9223372036854775807)))], (.le (.v 12) (.c (4100)))⟩]) (by kernel_rfl)
    (valids_cons (by intro ρ h; first | (simp only [holdsAll, Fm.holds, T.ev] at h ⊢; omega) | (simp [holdsAll, Fm.holds, T.ev] at h ⊢; done) | (simp [holdsAll, Fm.holds, T.ev] at h ⊢; omega))
    (valids_cons (by intro ρ h; first | (simp only [holdsAll, Fm.holds, T.ev] at h ⊢; omega) | (simp [holdsAll, Fm.holds, T.ev] at h ⊢; done) | (simp [holdsAll, Fm.holds, T.ev] at h ⊢; omega))
    (valids_cons (by intro ρ h; first | (simp only [holdsAll, Fm.holds, T.ev] at h ⊢; omega) | (simp [holdsAll, Fm.holds, T.ev] at h ⊢; done) | (simp [holdsAll, Fm.holds, T.ev] at h ⊢; omega))
    (valids_cons (by intro ρ h; first | (simp only [holdsAll, Fm.holds, T.ev] at h ⊢; omega) | (simp [holdsAll, Fm.holds, T.ev] at h ⊢; done) | (simp [holdsAll, Fm.holds, T.ev] at h ⊢; omega))
    (valids_nil)))))
noncomputable def env18 : Env := { P := Tryz.prog, con := (18, con18) :: env68.con, inl := [69, 63, 93], ann := anns }
theorem env18ok : ConOK env18 := ConOK.cons fn18 env68ok
noncomputable def con21 : Contract := conOf Tryz.prog 2000 2000 false ((Tryz.prog.funcs[21]?).getD default)
theorem fn21 : FnOK Tryz.prog 21 con21 := checkFn_ok (env := env18) env18ok (fuel := 200) (vcs := [⟨[(.le (.v 0) (.v 1)), (.le (.c (0)) (.v 3)), (.le (.v 3) (.c (64))), (.le (.c (0)) (.v 2)), (.le (.v 2) (.sub (.v 0) (.v 3))), (.le (.c (0)) (.v 0)), (.le (.v 0) (.c (2000))), (.le (.c (0)) (.v 1)), (.le (.v 1) (.c (9223372036854775807))), (.le (.c (0)) (.v 2)), (.le (.v 2) (.c (2000))), (.le (.c (0)) (.v 3)), (.le (.v 3) (.c (64)))], (.le (.add (.v 2) (.v 3)) (.v 1))⟩,
    ⟨[(.le (.v 0) (.v 1)), (.le (.c (0)) (.v 3)), (.le (.v 3) (.c (64))), (.le (.c (0)) (.v 2)), (.le (.v 2) (.sub (.v 0) (.v 3))), (.le (.c (0)) (.v 0)), (.le (.v 0) (.c (2000))), (.le (.c (0)) (.v 1)), (.le (.v 1) (.c (9223372036854775807))), (.le (.c (0)) (.v 2)), (.le (.v 2) (.c (2000))), (.le (.c (0)) (.v 3)), (.le (.v 3) (.c (64)))], (.le (.v 2) (.add (.v 2) (.v 3)))⟩,
    ⟨[(.le (.v 0) (.v 1)), (.le (.c (0)) (.v 3)), (.le (.v 3) (.c (64))), (.le (.c (0)) (.v 2)), (.le (.v 2) (.sub (.v 0) (.v 3))), (.le (.c (0)) (.v 0)), (.le (.v 0) (.c (2000))), (.le (.c (0)) (.v 1)), (.le (.v 1) (.c (9223372036854775807))), (.le (.c (0)) (.v 2)), (.le (.v 2) (.c (2000))), (.le (.c (0)) (.v 3)), (.le (.v 3) (.c (64)))], (.le (.c (0)) (.sub (.add (.v 2) (.v 3)) (.v 2)))⟩,
    ⟨[(.le (.v 0) (.v 1)), (.le (.c (0)) (.v 3)), (.le (.v 3) (.c (64))), (.le (.c (0)) (.v 2)), (.le (.v 2) (.sub (.v 0) (.v 3))), (.le (.c (0)) (.v 0)), (.le (.v 0) (.c (2000))), (.le (.c (0)) (.v 1)), (.le (.v 1) (.c (9223372036854775807))), (.le (.c (0)) (.v 2)), (.le (.v 2) (.c (2000))), (.le (.c (0)) (.v 3)), (.le (.v 3) (.c (64)))], (.le (.sub (.add (.v 2) (.v 3)) (.v 2)) (.c (2000)))⟩,
    ⟨[(.le (.v 0) (.v 1)), (.le (.c (0)) (.v 3)), (.le (.v 3) (.c (64))), (.le (.c (0)) (.v 2)), (.le (.v 2) (.sub (.v 0) (.v 3))), (.le (.c (0)) (.v 0)), (.le (.v 0) (.c (2000))), (.le (.c (0)) (.v 1)), (.le (.v 1) (.c (9223372036854775807))), (.le (.c (0)) (.v 2)), (.le (.v 2) (.c (2000))), (.le (.c (0)) (.v 3)), (.le (.v 3) (.c (64)))], (.le (.c (0)) (.sub (.v 1) (.v 2)))⟩,
    ⟨[(.le (.v 0) (.v 1)), (.le (.c (0)) (.v 3)), (.le (.v 3) (.c (64))), (.le (.c (0)) (.v 2)), (.le (.v 2) (.sub (.v 0) (.v 3))), (.le (.c (0)) (.v 0)), (.le (.v 0) (.c (2000))), (.le (.c (0)) (.v 1)), (.le (.v 1) (.c (9223372036854775807))), (.le (.c (0)) (.v 2)), (.le (.v 2) (.c (2000))), (.le (.c (0)) (.v 3)), (.le (.v 3) (.c (64)))], (.le (.sub (.add (.v 2) (.v 3)) (.v 2)) (.sub (.v 1) (.v 2)))⟩]) (by kernel_rfl)
    (valids_cons (by intro ρ h; first | (simp only [holdsAll, Fm.holds, T.ev] at h ⊢; omega) | (simp [holdsAll, Fm.holds, T.ev] at h ⊢; done) | (simp [holdsAll, Fm.holds, T.ev] at h ⊢; omega))
    (valids_cons (by intro ρ h; first | (simp only [holdsAll, Fm.holds, T.ev] at h ⊢; omega) | (simp [holdsAll, Fm.holds, T.ev] at h ⊢; done) | (simp [holdsAll, Fm.holds, T.ev] at h ⊢; omega))
    (valids_cons (by intro ρ h; first | (simp only [holdsAll, Fm.holds, T.ev] at h ⊢; omega) | (simp [holdsAll, Fm.holds, T.ev] at h ⊢; done) | (simp [holdsAll, Fm.holds, T.ev] at h ⊢; omega))
    (valids_cons (by intro ρ h; first | (simp only [holdsAll, Fm.holds, T.ev] at h ⊢; omega) | (simp [holdsAll, Fm.holds, T.ev] at h ⊢; done) | (simp [holdsAll, Fm.holds, T.ev] at h ⊢; omega))
    (valids_cons (by intro ρ h; first | (simp only [holdsAll, Fm.holds, T.ev] at h ⊢; omega) | (simp [holdsAll, Fm.holds, T.ev] at h ⊢; done) | (simp [holdsAll, Fm.holds, T.ev] at h ⊢; omega))
    (valids_cons (by intro ρ h; first | (simp only [holdsAll, Fm.holds, T.ev] at h ⊢; omega) | (simp [holdsAll, Fm.holds, T.ev] at h ⊢; done) | (simp [holdsAll, Fm.holds, T.ev] at h ⊢; omega))
    (valids_nil)))))))
noncomputable def env21 : Env := { P := Tryz.prog, con := (21, con21) :: env18.con, inl := [69, 63, 93], ann := anns }
theorem env21ok : ConOK env21 := ConOK.cons fn21 env18ok
-- no contract: 71 pointcode/bits.Flip$1 
noncomputable def env71 : Env := { P := Tryz.prog, con := env21.con, inl := [71, 69, 63, 93], ann := anns }
theorem env71ok : ConOK env71 := fun g c h => env21ok g c h
-- no contract: 95 slices.IndexFunc[[]int,int] 
noncomputable def env95 : Env := { P := Tryz.prog, con := env71.con, inl := [95, 71, 69, 63, 93], ann := anns }
theorem env95ok : ConOK env95 := fun g c h => env71ok g c h
-- no contract: 70 slices.ContainsFunc[[]int,int] 
noncomputable def env70 : Env := { P := Tryz.prog, con := env95.con, inl := [70, 95, 71, 69, 63, 93], ann := anns }
theorem env70ok : ConOK env70 := fun g c h => env95ok g c h
noncomputable def con72 : Contract := conOfX Tryz.prog 1000000 1000000 [] [] [] [(.eq (.v 2) (.v 0))] ((Tryz.prog.funcs[72]?).getD default)
theorem fn72 : FnOK Tryz.prog 72 con72 := checkFn_ok (env := env70) env70ok (fuel := 200) (vcs := [⟨[(.le (.v 0) (.v 1)), (.or (.eq (.v 2) (.c (0))) (.eq (.v 0) (.c (0)))), (.eq (.v 2) (.c (1))), (.le (.c (0)) (.v 0)), (.le (.v 0) (.c (1000000))), (.le (.c (0)) (.v 1)), (.le (.v 1) (.c (9223372036854775807))), (.le (.c (1)) (.v 2)), (.le (.v 2) (.c (1)))], (.eq (.c (0)) (.v 0))⟩]) (by kernel_rfl)
    (valids_cons (by intro ρ h; first | (simp only [holdsAll, Fm.holds, T.ev] at h ⊢; omega) | (simp [holdsAll, Fm.holds, T.ev] at h ⊢; done) | (simp [holdsAll, Fm.holds, T.ev] at h ⊢; omega))
    (valids_nil))
noncomputable def env72 : Env := { P := Tryz.prog, con := (72, con72) :: env70.con, inl := [70, 95, 71, 69, 63, 93], ann := anns }
theorem env72ok : ConOK env72 := ConOK.cons fn72 env70ok
noncomputable def con23 : Contract := conOf Tryz.prog 2000 2000 false ((Tryz.prog.funcs[23]?).getD default)
theorem fn23 : FnOK Tryz.prog 23 con23 := hand23 fn9 fn72 fn68
noncomputable def env23 : Env := { P := Tryz.prog, con := (23, con23) :: env72.con, inl := [70, 95, 71, 69, 63, 93], ann := anns }
theorem env23ok : ConOK env23 := ConOK.cons fn23 env72ok
noncomputable def con73 : Contract := conOfX Tryz.prog 20000000000000 20000000000000 [0] [] [] [(.eq (.v 2) (.v 0))] ((Tryz.prog.funcs[73]?).getD default)
theorem fn73 : FnOK Tryz.prog 73 con73 := checkFn_ok (env := env23) env23ok (fuel := 200) (vcs := [⟨[(.le (.v 0) (.v 1)), (.le (.c (0)) (.v 0)), (.le (.v 0) (.c (20000000000000))), (.le (.c (0)) (.v 1)), (.le (.v 1) (.c (9223372036854775807)))], (.le (.v 0) (.v 0))⟩,
    ⟨[(.le (.v 0) (.v 1)), (.le (.c (0)) (.v 0)), (.le (.v 0) (.c (20000000000000))), (.le (.c (0)) (.v 1)), (.le (.v 1) (.c (9223372036854775807)))], (.le (.v 0) (.v 0))⟩]) (by kernel_rfl)
    (valids_cons (by intro ρ h; first | (simp only [holdsAll, Fm.holds, T.ev] at h ⊢; omega) | (simp [holdsAll, Fm.holds, T.ev] at h ⊢; done) | (simp [holdsAll, Fm.holds, T.ev] at h ⊢; omega))
    (valids_cons (by intro ρ h; first | (simp only [holdsAll, Fm.holds, T.ev] at h ⊢; omega) | (simp [holdsAll, Fm.holds, T.ev] at h ⊢; done) | (simp [holdsAll, Fm.holds, T.ev] at h ⊢; omega))
    (valids_nil)))
noncomputable def env73 : Env := { P := Tryz.prog, con := (73, con73) :: env23.con, inl := [70, 95, 71, 69, 63, 93], ann := anns }
theorem env73ok : ConOK env73 := ConOK.cons fn73 env23ok
noncomputable def con26 : Contract := conOf Tryz.prog 2000 2000 false ((Tryz.prog.funcs[26]?).getD default)
theorem fn26 : FnOK Tryz.prog 26 con26 := checkFn_ok (env := env73) env73ok (fuel := 200) (vcs := [⟨[(.le (.v 0) (.v 1)), (.le (.v 2) (.v 3)), (.eq (.v 0) (.v 2)), (.le (.v 6) (.v 7)), (.le (.v 6) (.v 8)), (.le (.v 8) (.v 0)), (.lt (.v 8) (.v 0)), (.le (.c (1)) (.v 0)), (.le (.v 0) (.c (2000))), (.le (.c (0)) (.v 1)), (.le (.v 1) (.c (9223372036854775807))), (.le (.c (0)) (.v 2)), (.le (.v 2) (.c (2000))), (.le (.c (0)) (.v 3)), (.le (.v 3) (.c (9223372036854775807))), (.le (.c (0)) (.v 6)), (.le (.v 6) (.c (1099511627776))), (.le (.c (0)) (.v 7)), (.le (.v 7) (.c (9223372036854775807))), (.le (.c (0)) (.v 8)), (.le (.v 8) (.c (1999)))], (.lt (.v 8) (.v 2))⟩,
    ⟨[(.le (.v 0) (.v 1)), (.le (.v 2) (.v 3)), (.eq (.v 0) (.v 2)), (.le (.v 6) (.v 7)), (.le (.v 6) (.v 8)), (.le (.v 8) (.v 0)), (.lt (.v 8) (.v 0)), (.le (.add (.v 6) (.c (1))) (.v 12)), (.le (.c (1)) (.v 0)), (.le (.v 0) (.c (2000))), (.le (.c (0)) (.v 1)), (.le (.v 1) (.c (9223372036854775807))), (.le (.c (0)) (.v 2)), (.le (.v 2) (.c (2000))), (.le (.c (0)) (.v 3)), (.le (.v 3) (.c (9223372036854775807))), (.le (.c (0)) (.v 6)), (.le (.v 6) (.c (1099511627776))), (.le (.c (0)) (.v 7)), (.le (.v 7) (.c (9223372036854775807))), (.le (.c (0)) (.v 8)), (.le (.v 8) (.c (1999))), (.le (.c (0)) (.v 12)), (.le (.v 12) (.c (9223372036854775807)))], (.le (.add (.v 6) (.c (1))) (.add (.v 8) (.c (1))))⟩,
    ⟨[(.le (.v 0) (.v 1)), (.le (.v 2) (.v 3)), (.eq (.v 0) (.v 2)), (.le (.v 6) (.v 7)), (.le (.v 6) (.v 8)), (.le (.v 8) (.v 0)), (.lt (.v 8) (.v 0)), (.le (.add (.v 6) (.c (1))) (.v 12)), (.le (.c (1)) (.v 0)), (.le (.v 0) (.c (2000))), (.le (.c (0)) (.v 1)), (.le (.v 1) (.c (9223372036854775807))), (.le (.c (0)) (.v 2)), (.le (.v 2) (.c (2000))), (.le (.c (0)) (.v 3)), (.le (.v 3) (.c (9223372036854775807))), (.le (.c (0)) (.v 6)), (.le (.v 6) (.c (1099511627776))), (.le (.c (0)) (.v 7)), (.le (.v 7) (.c (9223372036854775807))), (.le (.c (0)) (.v 8)), (.le (.v 8) (.c (1999))), (.le (.c (0)) (.v 12)), (.le (.v 12) (.c (9223372036854775807)))], (.le (.add (.v 8) (.c (1))) (.v 0))⟩,
    ⟨[(.le (.v 0) (.v 1)), (.le (.v 2) (.v 3)), (.eq (.v 0) (.v 2)), (.le (.v 6) (.v 7)), (.le (.v 6) (.v 8)), (.le (.v 8) (.v 0)), (.lt (.v 8) (.v 0)), (.le (.add (.v 6) (.c (1))) (.v 12)), (.le (.c (1)) (.v 0)), (.le (.v 0) (.c (2000))), (.le (.c (0)) (.v 1)), (.le (.v 1) (.c (9223372036854775807))), (.le (.c (0)) (.v 2)), (.le (.v 2) (.c (2000))), (.le (.c (0)) (.v 3)), (.le (.v 3) (.c (9223372036854775807))), (.le (.c (0)) (.v 6)), (.le (.v 6) (.c (1099511627776))), (.le (.c (0)) (.v 7)), (.le (.v 7) (.c (9223372036854775807))), (.le (.c (0)) (.v 8)), (.le (.v 8) (.c (1999))), (.le (.c (0)) (.v 12)), (.le (.v 12) (.c (9223372036854775807)))], (.le (.add (.v 6) (.c (1))) (.c (1099511627776)))⟩,
    ⟨[(.le (.v 0) (.v 1)), (.le (.v 2) (.v 3)), (.eq (.v 0) (.v 2)), (.le (.v 6) (.v 7)), (.le (.v 6) (.v 8)), (.le (.v 8) (.v 0)), (.lt (.v 8) (.v 0)), (.le (.add (.v 6) (.c (1))) (.v 12)), (.le (.c (1)) (.v 0)), (.le (.v 0) (.c (2000))), (.le (.c (0)) (.v 1)), (.le (.v 1) (.c (9223372036854775807))), (.le (.c (0)) (.v 2)), (.le (.v 2) (.c (2000))), (.le (.c (0)) (.v 3)), (.le (.v 3) (.c (9223372036854775807))), (.le (.c (0)) (.v 6)), (.le (.v 6) (.c (1099511627776))), (.le (.c (0)) (.v 7)), (.le (.v 7) (.c (9223372036854775807))), (.le (.c (0)) (.v 8)), (.le (.v 8) (.c (1999))), (.le (.c (0)) (.v 12)), (.le (.v 12) (.c (9223372036854775807)))], (.le (.c (1)) (.sub (.v 0) (.v 8)))⟩,
    ⟨[(.le (.v 0) (.v 1)), (.le (.v 2) (.v 3)), (.eq (.v 0) (.v 2)), (.le (.v 6) (.v 7)), (.le (.v 6) (.v 8)), (.le (.v 8) (.v 0)), (.lt (.v 8) (.v 0)), (.le (.add (.v 6) (.c (1))) (.v 12)), (.le (.c (1)) (.v 0)), (.le (.v 0) (.c (2000))), (.le (.c (0)) (.v 1)), (.le (.v 1) (.c (9223372036854775807))), (.le (.c (0)) (.v 2)), (.le (.v 2) (.c (2000))), (.le (.c (0)) (.v 3)), (.le (.v 3) (.c (9223372036854775807))), (.le (.c (0)) (.v 6)), (.le (.v 6) (.c (1099511627776))), (.le (.c (0)) (.v 7)), (.le (.v 7) (.c (9223372036854775807))), (.le (.c (0)) (.v 8)), (.le (.v 8) (.c (1999))), (.le (.c (0)) (.v 12)), (.le (.v 12) (.c (9223372036854775807)))], (.lt (.sub (.v 0) (.add (.v 8) (.c (1)))) (.sub (.v 0) (.v 8)))⟩,
    ⟨[(.le (.v 0) (.v 1)), (.le (.v 2) (.v 3)), (.eq (.v 0) (.v 2)), (.le (.v 6) (.v 7)), (.le (.v 6) (.v 8)), (.le (.v 8) (.v 0)), (.lt (.v 8) (.v 0)), (.le (.c (1)) (.v 0)), (.le (.v 0) (.c (2000))), (.le (.c (0)) (.v 1)), (.le (.v 1) (.c (9223372036854775807))), (.le (.c (0)) (.v 2)), (.le (.v 2) (.c (2000))), (.le (.c (0)) (.v 3)), (.le (.v 3) (.c (9223372036854775807))), (.le (.c (0)) (.v 6)), (.le (.v 6) (.c (1099511627776))), (.le (.c (0)) (.v 7)), (.le (.v 7) (.c (9223372036854775807))), (.le (.c (0)) (.v 8)), (.le (.v 8) (.c (1999)))], (.le (.v 6) (.add (.v 8) (.c (1))))⟩,
    ⟨[(.le (.v 0) (.v 1)), (.le (.v 2) (.v 3)), (.eq (.v 0) (.v 2)), (.le (.v 6) (.v 7)), (.le (.v 6) (.v 8)), (.le (.v 8) (.v 0)), (.lt (.v 8) (.v 0)), (.le (.c (1)) (.v 0)), (.le (.v 0) (.c (2000))), (.le (.c (0)) (.v 1)), (.le (.v 1) (.c (9223372036854775807))), (.le (.c (0)) (.v 2)), (.le (.v 2) (.c (2000))), (.le (.c (0)) (.v 3)), (.le (.v 3) (.c (9223372036854775807))), (.le (.c (0)) (.v 6)), (.le (.v 6) (.c (1099511627776))), (.le (.c (0)) (.v 7)), (.le (.v 7) (.c (9223372036854775807))), (.le (.c (0)) (.v 8)), (.le (.v 8) (.c (1999)))], (.le (.add (.v 8) (.c (1))) (.v 0))⟩,
    ⟨[(.le (.v 0) (.v 1)), (.le (.v 2) (.v 3)), (.eq (.v 0) (.v 2)), (.le (.v 6) (.v 7)), (.le (.v 6) (.v 8)), (.le (.v 8) (.v 0)), (.lt (.v 8) (.v 0)), (.le (.c (1)) (.v 0)), (.le (.v 0) (.c (2000))), (.le (.c (0)) (.v 1)), (.le (.v 1) (.c (9223372036854775807))), (.le (.c (0)) (.v 2)), (.le (.v 2) (.c (2000))), (.le (.c (0)) (.v 3)), (.le (.v 3) (.c (9223372036854775807))), (.le (.c (0)) (.v 6)), (.le (.v 6) (.c (1099511627776))), (.le (.c (0)) (.v 7)), (.le (.v 7) (.c (9223372036854775807))), (.le (.c (0)) (.v 8)), (.le (.v 8) (.c (1999)))], (.le (.c (1)) (.sub (.v 0) (.v 8)))⟩,
    ⟨[(.le (.v 0) (.v 1)), (.le (.v 2) (.v 3)), (.eq (.v 0) (.v 2)), (.le (.v 6) (.v 7)), (.le (.v 6) (.v 8)), (.le (.v 8) (.v 0)), (.lt (.v 8) (.v 0)), (.le (.c (1)) (.v 0)), (.le (.v 0) (.c (2000))), (.le (.c (0)) (.v 1)), (.le (.v 1) (.c (9223372036854775807))), (.le (.c (0)) (.v 2)), (.le (.v 2) (.c (2000))), (.le (.c (0)) (.v 3)), (.le (.v 3) (.c (9223372036854775807))), (.le (.c (0)) (.v 6)), (.le (.v 6) (.c (1099511627776))), (.le (.c (0)) (.v 7)), (.le (.v 7) (.c (9223372036854775807))), (.le (.c (0)) (.v 8)), (.le (.v 8) (.c (1999)))], (.lt (.sub (.v 0) (.add (.v 8) (.c (1)))) (.sub (.v 0) (.v 8)))⟩,
    ⟨[(.le (.v 0) (.v 1)), (.le (.v 2) (.v 3)), (.eq (.v 0) (.v 2)), (.le (.v 6) (.v 7)), (.le (.v 6) (.v 8)), (.le (.v 8) (.v 0)), (.le (.v 0) (.v 8)), (.le (.v 9) (.v 10)), (.eq (.v 9) (.v 6)), (.le (.c (0)) (.v 0)), (.le (.v 0) (.c (2000))), (.le (.c (0)) (.v 1)), (.le (.v 1) (.c (9223372036854775807))), (.le (.c (0)) (.v 2)), (.le (.v 2) (.c (2000))), (.le (.c (0)) (.v 6)), (.le (.v 6) (.c (1099511627776))), (.le (.c (0)) (.v 7)), (.le (.v 7) (.c (9223372036854775807))), (.le (.c (0)) (.v 8)), (.le (.v 8) (.c (2000))), (.le (.c (0)) (.v 9)), (.le (.v 9) (.c (20000000000000))), (.le (.c (0)) (.v 10)), (.le (.v 10) (.c (9223372036854775807)))], (.le (.v 9) (.c (2000)))⟩]) (by kernel_rfl)
    (valids_cons (by intro ρ h; first | (simp only [holdsAll, Fm.holds, T.ev] at h ⊢; omega) | (simp [holdsAll, Fm.holds, T.ev] at h ⊢; done) | (simp [holdsAll, Fm.holds, T.ev] at h ⊢; omega))
    (valids_cons (by intro ρ h; first | (simp only [holdsAll, Fm.holds, T.ev] at h ⊢; omega) | (simp [holdsAll, Fm.holds, T.ev] at h ⊢; done) | (simp [holdsAll, Fm.holds, T.ev] at h ⊢; omega))
    (valids_cons (by intro ρ h; first | (simp only [holdsAll, Fm.holds, T.ev] at h ⊢; omega) | (simp [holdsAll, Fm.holds, T.ev] at h ⊢; done) | (simp [holdsAll, Fm.holds, T.ev] at h ⊢; omega))
    (valids_cons (by intro ρ h; first | (simp only [holdsAll, Fm.holds, T.ev] at h ⊢; omega) | (simp [holdsAll, Fm.holds, T.ev] at h ⊢; done) | (simp [holdsAll, Fm.holds, T.ev] at h ⊢; omega))
    (valids_cons (by intro ρ h; first | (simp only [holdsAll, Fm.holds, T.ev] at h ⊢; omega) | (simp [holdsAll, Fm.holds, T.ev] at h ⊢; done) | (simp [holdsAll, Fm.holds, T.ev] at h ⊢; omega))
    (valids_cons (by intro ρ h; first | (simp only [holdsAll, Fm.holds, T.ev] at h ⊢; omega) | (simp [holdsAll, Fm.holds, T.ev] at h ⊢; done) | (simp [holdsAll, Fm.holds, T.ev] at h ⊢; omega))
    (valids_cons (by intro ρ h; first | (simp only [holdsAll, Fm.holds, T.ev] at h ⊢; omega) | (simp [holdsAll, Fm.holds, T.ev] at h ⊢; done) | (simp [holdsAll, Fm.holds, T.ev] at h ⊢; omega))
    (valids_cons (by intro ρ h; first | (simp only [holdsAll, Fm.holds, T.ev] at h ⊢; omega) | (simp [holdsAll, Fm.holds, T.ev] at h ⊢; done) | (simp [holdsAll, Fm.holds, T.ev] at h ⊢; omega))
    (valids_cons (by intro ρ h; first | (simp only [holdsAll, Fm.holds, T.ev] at h ⊢; omega) | (simp [holdsAll, Fm.holds, T.ev] at h ⊢; done) | (simp [holdsAll, Fm.holds, T.ev] at h ⊢; omega))
    (valids_cons (by intro ρ h; first | (simp only [holdsAll, Fm.holds, T.ev] at h ⊢; omega) | (simp [holdsAll, Fm.holds, T.ev] at h ⊢; done) | (simp [holdsAll, Fm.holds, T.ev] at h ⊢; omega))
    (valids_cons (by intro ρ h; first | (simp only [holdsAll, Fm.holds, T.ev] at h ⊢; omega) | (simp [holdsAll, Fm.holds, T.ev] at h ⊢; done) | (simp [holdsAll, Fm.holds, T.ev] at h ⊢; omega))
    (valids_nil))))))))))))
noncomputable def env26 : Env := { P := Tryz.prog, con := (26, con26) :: env73.con, inl := [70, 95, 71, 69, 63, 93], ann := anns }
theorem env26ok : ConOK env26 := ConOK.cons fn26 env73ok
noncomputable def con30 : Contract := conOf Tryz.prog 2000 2000 false ((Tryz.prog.funcs[30]?).getD default)
theorem fn30 : FnOK Tryz.prog 30 con30 := checkFn_ok (env := env26) env26ok (fuel := 200) (vcs := [⟨[(.le (.v 0) (.v 1)), (.lt (.v 5) (.v 0)), (.le (.c (1)) (.v 0)), (.le (.v 0) (.c (2000))), (.le (.c (0)) (.v 1)), (.le (.v 1) (.c (9223372036854775807))), (.le (.c (0)) (.v 5)), (.le (.v 5) (.c (1999)))], (.le (.c (1)) (.sub (.v 0) (.v 5)))⟩,
    ⟨[(.le (.v 0) (.v 1)), (.lt (.v 5) (.v 0)), (.le (.c (1)) (.v 0)), (.le (.v 0) (.c (2000))), (.le (.c (0)) (.v 1)), (.le (.v 1) (.c (9223372036854775807))), (.le (.c (0)) (.v 5)), (.le (.v 5) (.c (1999)))], (.lt (.sub (.v 0) (.add (.v 5) (.c (1)))) (.sub (.v 0) (.v 5)))⟩,
    ⟨[(.le (.v 0) (.v 1)), (.lt (.v 5) (.v 0)), (.le (.c (1)) (.v 0)), (.le (.v 0) (.c (2000))), (.le (.c (0)) (.v 1)), (.le (.v 1) (.c (9223372036854775807))), (.le (.c (0)) (.v 5)), (.le (.v 5) (.c (1999)))], (.le (.c (1)) (.sub (.v 0) (.v 5)))⟩,
    ⟨[(.le (.v 0) (.v 1)), (.lt (.v 5) (.v 0)), (.le (.c (1)) (.v 0)), (.le (.v 0) (.c (2000))), (.le (.c (0)) (.v 1)), (.le (.v 1) (.c (9223372036854775807))), (.le (.c (0)) (.v 5)), (.le (.v 5) (.c (1999)))], (.lt (.sub (.v 0) (.add (.v 5) (.c (1)))) (.sub (.v 0) (.v 5)))⟩]) (by kernel_rfl)
    (valids_cons (by intro ρ h; first | (simp only [holdsAll, Fm.holds, T.ev] at h ⊢; omega) | (simp [holdsAll, Fm.holds, T.ev] at h ⊢; done) | (simp [holdsAll, Fm.holds, T.ev] at h ⊢; omega))
    (valids_cons (by intro ρ h; first | (simp only [holdsAll, Fm.holds, T.ev] at h ⊢; omega) | (simp [holdsAll, Fm.holds, T.ev] at h ⊢; done) | (simp [holdsAll, Fm.holds, T.ev] at h ⊢; omega))
    (valids_cons (by intro ρ h; first | (simp only [holdsAll, Fm.holds, T.ev] at h ⊢; omega) | (simp [holdsAll, Fm.holds, T.ev] at h ⊢; done) | (simp [holdsAll, Fm.holds, T.ev] at h ⊢; omega))
    (valids_cons (by intro ρ h; first | (simp only [holdsAll, Fm.holds, T.ev] at h ⊢; omega) | (simp [holdsAll, Fm.holds, T.ev] at h ⊢; done) | (simp [holdsAll, Fm.holds, T.ev] at h ⊢; omega))
    (valids_nil)))))
noncomputable def env30 : Env := { P := Tryz.prog, con := (30, con30) :: env26.con, inl := [70, 95, 71, 69, 63, 93], ann := anns }
theorem env30ok : ConOK env30 := ConOK.cons fn30 env26ok
-- no contract: 104 internal/abi.NoEscape 
-- no contract: 96 (*strings.Builder).copyCheck 
noncomputable def env96 : Env := { P := Tryz.prog, con := env30.con, inl := [96, 70, 95, 71, 69, 63, 93], ann := anns }
theorem env96ok : ConOK env96 := fun g c h => env30ok g c h
-- no contract: 75 (*strings.Builder).WriteByte 
noncomputable def env75 : Env := { P := Tryz.prog, con := env96.con, inl := [75, 96, 70, 95, 71, 69, 63, 93], ann := anns }
theorem env75ok : ConOK env75 := fun g c h => env96ok g c h
-- no contract: 76 (*strings.Builder).String 
noncomputable def env76 : Env := { P := Tryz.prog, con := env75.con, inl := [76, 75, 96, 70, 95, 71, 69, 63, 93], ann := anns }
theorem env76ok : ConOK env76 := fun g c h => env75ok g c h
noncomputable def con32 : Contract := conOf Tryz.prog 2000 2000 false ((Tryz.prog.funcs[32]?).getD default)
theorem fn32 : FnOK Tryz.prog 32 con32 := hand32 fn9
noncomputable def env32 : Env := { P := Tryz.prog, con := (32, con32) :: env76.con, inl := [76, 75, 96, 70, 95, 71, 69, 63, 93], ann := anns }
theorem env32ok : ConOK env32 := ConOK.cons fn32 env76ok
noncomputable def con34 : Contract := conOf Tryz.prog 2000 2000 false ((Tryz.prog.funcs[34]?).getD default)
theorem fn34 : FnOK Tryz.prog 34 con34 := checkFn_ok (env := env32) env32ok (fuel := 200) (vcs := [⟨[(.le (.c (0)) (.v 0)), (.le (.v 0) (.c (2000)))], (.le (.v 0) (.v 0))⟩,
    ⟨[(.lt (.v 4) (.v 0)), (.le (.c (1)) (.v 0)), (.le (.v 0) (.c (2000))), (.le (.c (0)) (.v 4)), (.le (.v 4) (.c (1999)))], (.le (.c (1)) (.sub (.v 0) (.v 4)))⟩,
    ⟨[(.lt (.v 4) (.v 0)), (.le (.c (1)) (.v 0)), (.le (.v 0) (.c (2000))), (.le (.c (0)) (.v 4)), (.le (.v 4) (.c (1999)))], (.lt (.sub (.v 0) (.add (.v 4) (.c (1)))) (.sub (.v 0) (.v 4)))⟩,
    ⟨[(.lt (.v 4) (.v 0)), (.le (.c (1)) (.v 0)), (.le (.v 0) (.c (2000))), (.le (.c (0)) (.v 4)), (.le (.v 4) (.c (1999)))], (.le (.c (1)) (.sub (.v 0) (.v 4)))⟩,
    ⟨[(.lt (.v 4) (.v 0)), (.le (.c (1)) (.v 0)), (.le (.v 0) (.c (2000))), (.le (.c (0)) (.v 4)), (.le (.v 4) (.c (1999)))], (.lt (.sub (.v 0) (.add (.v 4) (.c (1)))) (.sub (.v 0) (.v 4)))⟩,
    ⟨[(.le (.v 0) (.v 4)), (.le (.c (0)) (.v 0)), (.le (.v 0) (.c (2000))), (.le (.c (0)) (.v 4)), (.le (.v 4) (.c (9223372036854775807)))], (.le (.v 0) (.v 0))⟩]) (by kernel_rfl)
    (valids_cons (by intro ρ h; first | (simp only [holdsAll, Fm.holds, T.ev] at h ⊢; omega) | (simp [holdsAll, Fm.holds, T.ev] at h ⊢; done) | (simp [holdsAll, Fm.holds, T.ev] at h ⊢; omega))
    (valids_cons (by intro ρ h; first | (simp only [holdsAll, Fm.holds, T.ev] at h ⊢; omega) | (simp [holdsAll, Fm.holds, T.ev] at h ⊢; done) | (simp [holdsAll, Fm.holds, T.ev] at h ⊢; omega))
    (valids_cons (by intro ρ h; first | (simp only [holdsAll, Fm.holds, T.ev] at h ⊢; omega) | (simp [holdsAll, Fm.holds, T.ev] at h ⊢; done) | (simp [holdsAll, Fm.holds, T.ev] at h ⊢; omega))
    (valids_cons (by intro ρ h; first | (simp only [holdsAll, Fm.holds, T.ev] at h ⊢; omega) | (simp [holdsAll, Fm.holds, T.ev] at h ⊢; done) | (simp [holdsAll, Fm.holds, T.ev] at h ⊢; omega))
    (valids_cons (by intro ρ h; first | (simp only [holdsAll, Fm.holds, T.ev] at h ⊢; omega) | (simp [holdsAll, Fm.holds, T.ev] at h ⊢; done) | (simp [holdsAll, Fm.holds, T.ev] at h ⊢; omega))
    (valids_cons (by intro ρ h; first | (simp only [holdsAll, Fm.holds, T.ev] at h ⊢; omega) | (simp [holdsAll, Fm.holds, T.ev] at h ⊢; done) | (simp [holdsAll, Fm.holds, T.ev] at h ⊢; omega))
    (valids_nil)))))))
noncomputable def env34 : Env := { P := Tryz.prog, con := (34, con34) :: env32.con, inl := [76, 75, 96, 70, 95, 71, 69, 63, 93], ann := anns }
theorem env34ok : ConOK env34 := ConOK.cons fn34 env32ok
noncomputable def envL : Env := { P := Tryz.prog, con := env34.con, inl := [76, 75, 96, 70, 95, 71, 69, 63, 93], ann := anns, wa := true }
theorem envLok : ConOK envL := fun g c h => env34ok g c h
theorem call8 : CallOK Tryz.prog 3 9 2000 8 (.seq (.row 5 (.int .u8)) (.seq (.row 5 (.int .u8)) (.seq (.int .u64) (.seq (.int .i64) (.seq (.int .i64) (.seq (.row 3 (.int .i64)) (.seq (.row 5 (.int .u8)) (.seq (.int .u8) .str)))))))) glL := by
  refine CallOK.nil (env := envL) envLok (fuel := 200) (vcs := []) ?_ (valids_nil) (by decide) Tryz.func8 Tryz.ntmps8 rfl (by kernel_rfl) rfl
  kernel_rfl
theorem call10 : CallOK Tryz.prog 3 9 2000 10 (.seq (.row 5 (.int .u8)) (.seq (.row 5 (.int .u8)) (.seq (.int .u64) (.seq (.int .i64) (.seq (.int .i64) (.seq (.row 3 (.int .i64)) (.seq (.row 5 (.int .u8)) (.seq (.int .u8) .str)))))))) glL := by
  refine CallOK.one (env := envL) envLok (fuel := 200) (dr := (.row 5 (.int .u8))) (vcs := []) ?_ (valids_nil) (by decide) Tryz.func10 Tryz.ntmps10 rfl (by kernel_rfl) build1u build1s build1z rfl rfl clos12
  kernel_rfl
theorem call14 : CallOK Tryz.prog 3 9 2000 14 (.seq (.row 5 (.int .u8)) (.seq (.row 5 (.int .u8)) (.seq (.int .u64) (.seq (.int .i64) (.seq (.int .i64) (.seq (.row 3 (.int .i64)) (.seq (.row 5 (.int .u8)) (.seq (.int .u8) .str)))))))) glL := by
  refine CallOK.one (env := envL) envLok (fuel := 200) (dr := (.row 5 (.int .u8))) (vcs := []) ?_ (valids_nil) (by decide) Tryz.func14 Tryz.ntmps14 rfl (by kernel_rfl) build1u build1s build1z rfl rfl clos16
  kernel_rfl
theorem call17 : CallOK Tryz.prog 3 9 2000 17 (.seq (.row 5 (.int .u8)) (.seq (.row 5 (.int .u8)) (.seq (.int .u64) (.seq (.int .i64) (.seq (.int .i64) (.seq (.row 3 (.int .i64)) (.seq (.row 5 (.int .u8)) (.seq (.int .u8) .str)))))))) glL := by
  refine CallOK.one (env := envL) envLok (fuel := 200) (dr := (.row 5 (.int .u8))) (vcs := []) ?_ (valids_nil) (by decide) Tryz.func17 Tryz.ntmps17 rfl (by kernel_rfl) build1u build1s build1z rfl rfl clos19
  kernel_rfl
theorem call20 : CallOK Tryz.prog 3 9 2000 20 (.seq (.row 5 (.int .u8)) (.seq (.row 5 (.int .u8)) (.seq (.int .u64) (.seq (.int .i64) (.seq (.int .i64) (.seq (.row 3 (.int .i64)) (.seq (.row 5 (.int .u8)) (.seq (.int .u8) .str)))))))) glL := by
  refine CallOK.nil (env := envL) envLok (fuel := 200) (vcs := []) ?_ (valids_nil) (by decide) Tryz.func20 Tryz.ntmps20 rfl (by kernel_rfl) rfl
  kernel_rfl
theorem call22 : CallOK Tryz.prog 3 9 2000 22 (.seq (.row 5 (.int .u8)) (.seq (.row 5 (.int .u8)) (.seq (.int .u64) (.seq (.int .i64) (.seq (.int .i64) (.seq (.row 3 (.int .i64)) (.seq (.row 5 (.int .u8)) (.seq (.int .u8) .str)))))))) glL := by
  refine CallOK.one (env := envL) envLok (fuel := 200) (dr := (.row 5 (.int .u8))) (vcs := []) ?_ (valids_nil) (by decide) Tryz.func22 Tryz.ntmps22 rfl (by kernel_rfl) build1u build1s build1z rfl rfl clos24
  kernel_rfl
theorem call25 : CallOK Tryz.prog 3 9 2000 25 (.seq (.row 5 (.int .u8)) (.seq (.row 5 (.int .u8)) (.seq (.int .u64) (.seq (.int .i64) (.seq (.int .i64) (.seq (.row 3 (.int .i64)) (.seq (.row 5 (.int .u8)) (.seq (.int .u8) .str)))))))) glL := by
  refine CallOK.one (env := envL) envLok (fuel := 200) (dr := (.row 3 (.int .i64))) (vcs := []) ?_ (valids_nil) (by decide) Tryz.func25 Tryz.ntmps25 rfl (by kernel_rfl) build1u build1s build1z rfl rfl clos27
  kernel_rfl
theorem call29 : CallOK Tryz.prog 3 9 2000 29 (.seq (.row 5 (.int .u8)) (.seq (.row 5 (.int .u8)) (.seq (.int .u64) (.seq (.int .i64) (.seq (.int .i64) (.seq (.row 3 (.int .i64)) (.seq (.row 5 (.int .u8)) (.seq (.int .u8) .str)))))))) glL := by
  refine CallOK.nil (env := envL) envLok (fuel := 200) (vcs := []) ?_ (valids_nil) (by decide) Tryz.func29 Tryz.ntmps29 rfl (by kernel_rfl) rfl
  kernel_rfl
theorem call31 : CallOK Tryz.prog 3 9 2000 31 (.seq (.row 5 (.int .u8)) (.seq (.row 5 (.int .u8)) (.seq (.int .u64) (.seq (.int .i64) (.seq (.int .i64) (.seq (.row 3 (.int .i64)) (.seq (.row 5 (.int .u8)) (.seq (.int .u8) .str)))))))) glL := by
  refine CallOK.nil (env := envL) envLok (fuel := 200) (vcs := []) ?_ (valids_nil) (by decide) Tryz.func31 Tryz.ntmps31 rfl (by kernel_rfl) rfl
  kernel_rfl
theorem call33 : CallOK Tryz.prog 3 9 2000 33 (.seq (.row 5 (.int .u8)) (.seq (.row 5 (.int .u8)) (.seq (.int .u64) (.seq (.int .i64) (.seq (.int .i64) (.seq (.row 3 (.int .i64)) (.seq (.row 5 (.int .u8)) (.seq (.int .u8) .str)))))))) glL := by
  refine CallOK.one (env := envL) envLok (fuel := 200) (dr := (.row 5 (.int .u8))) (vcs := []) ?_ (valids_nil) (by decide) Tryz.func33 Tryz.ntmps33 rfl (by kernel_rfl) build1u build1s build1z rfl rfl clos35
  kernel_rfl

end Go.Sx
