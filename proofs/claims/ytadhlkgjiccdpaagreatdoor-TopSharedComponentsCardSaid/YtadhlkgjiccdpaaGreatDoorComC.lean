/- Part ComC of a proof: helper lemmas; no conditions. -/
import Derived.Test.YtadhlkgjiccdpaaGreatDoorTrA
import Derived.Test.YtadhlkgjiccdpaaGreatDoorL
import Derived.Test.YtadhlkgjiccdpaaGreatDoorJB
import Derived.Test.YtadhlkgjiccdpaaGreatDoorComD
import Derived.Test.YtadhlkgjiccdpaaGreatDoorProg
import Derived.KernelRfl

set_option linter.unusedSimpArgs false
set_option linter.unusedVariables false

namespace Go.Sx
open Go Go.Proofs

theorem build1u : Tryz.prog.underlying 35 = some (.slice 42) := Tryz.underlying35
theorem build1s : sizeAt Tryz.prog 42 = some 1 := by kernel_rfl
theorem build1z : zeroAt Tryz.prog 42 = some .nilFunc := by kernel_rfl
-- { law := 4, apart := 23, own := 24, see := 25, calls := [26, 28, 32, 37, 40], ty := 64 }
def anns : List (Nat × Nat × LoopAnn) := [(73, 0, { ivs := [], facts := [(.le (.c (1)) (.v 3)), (.le (.v 3) (.c (8)))], meas := none, keep := [], peel := 0 }),
  (38, 0, { ivs := [], facts := [(.le (.v 3004) (.v 14)), (.le (.v 14) (.c (16)))], meas := none, keep := [], peel := 0 }),
  (41, 1, { ivs := [], facts := [(.le (.v 1006) (.v 47)), (.le (.v 47) (.c (16)))], meas := none, keep := [], peel := 0 })]
noncomputable def env0 : Env := { P := Tryz.prog, ann := anns }
theorem env0ok : ConOK env0 := fun _ _ h => nomatch h
noncomputable def con111 : Contract := conOf Tryz.prog 2000 2000 false ((Tryz.prog.funcs[111]?).getD default)
theorem fn111 : FnOK Tryz.prog 111 con111 := checkFn_ok (env := env0) env0ok (fuel := 200) (vcs := []) (by kernel_rfl)
    (valids_nil)
noncomputable def env111 : Env := { P := Tryz.prog, con := (111, con111) :: env0.con, inl := [], ann := anns }
theorem env111ok : ConOK env111 := ConOK.cons fn111 env0ok
noncomputable def con27 : Contract := conOf Tryz.prog 1099511627776 1099511627776 false ((Tryz.prog.funcs[27]?).getD default)
theorem fn27 : FnOK Tryz.prog 27 con27 := checkFn_ok (env := env111) env111ok (fuel := 200) (vcs := []) (by kernel_rfl)
    (valids_nil)
noncomputable def env27 : Env := { P := Tryz.prog, con := (27, con27) :: env111.con, inl := [], ann := anns }
theorem env27ok : ConOK env27 := ConOK.cons fn27 env111ok
noncomputable def con73 : Contract := conOf Tryz.prog 2000 8 false ((Tryz.prog.funcs[73]?).getD default)
theorem fn73 : FnOK Tryz.prog 73 con73 := checkFn_ok (env := env27) env27ok (fuel := 200) (vcs := [⟨[(.le (.c (1)) (.v 1)), (.le (.v 1) (.c (8))), (.lt (.v 1) (.c (8))), (.le (.c (1)) (.v 1)), (.le (.v 1) (.c (7)))], (.lt (.sub (.c (8)) (.add (.v 1) (.c (1)))) (.sub (.c (8)) (.v 1)))⟩,
    ⟨[(.le (.c (1)) (.v 1)), (.le (.v 1) (.c (8))), (.lt (.v 1) (.c (8))), (.le (.c (1)) (.v 1)), (.le (.v 1) (.c (7)))], (.le (.v 1) (.v 1))⟩,
    ⟨[(.le (.c (1)) (.v 1)), (.le (.v 1) (.c (8))), (.lt (.v 1) (.c (8))), (.lt (.v 4) (.v 1)), (.le (.c (1)) (.v 1)), (.le (.v 1) (.c (7))), (.le (.c (0)) (.v 4)), (.le (.v 4) (.c (6)))], (.le (.c (0)) (.sub (.add (.v 1) (.c (-1))) (.v 4)))⟩,
    ⟨[(.le (.c (1)) (.v 1)), (.le (.v 1) (.c (8))), (.lt (.v 1) (.c (8))), (.lt (.v 4) (.v 1)), (.le (.c (1)) (.v 1)), (.le (.v 1) (.c (7))), (.le (.c (0)) (.v 4)), (.le (.v 4) (.c (6)))], (.lt (.sub (.add (.v 1) (.c (-1))) (.v 4)) (.v 1))⟩,
    ⟨[(.le (.c (1)) (.v 1)), (.le (.v 1) (.c (8))), (.lt (.v 1) (.c (8))), (.lt (.v 4) (.v 1)), (.le (.c (1)) (.v 1)), (.le (.v 1) (.c (7))), (.le (.c (0)) (.v 4)), (.le (.v 4) (.c (6)))], (.le (.c (1)) (.sub (.v 1) (.v 4)))⟩,
    ⟨[(.le (.c (1)) (.v 1)), (.le (.v 1) (.c (8))), (.lt (.v 1) (.c (8))), (.lt (.v 4) (.v 1)), (.le (.c (1)) (.v 1)), (.le (.v 1) (.c (7))), (.le (.c (0)) (.v 4)), (.le (.v 4) (.c (6)))], (.lt (.sub (.v 1) (.add (.v 4) (.c (1)))) (.sub (.v 1) (.v 4)))⟩,
    ⟨[(.le (.c (1)) (.v 1)), (.le (.v 1) (.c (8))), (.lt (.v 1) (.c (8))), (.le (.c (1)) (.v 1)), (.le (.v 1) (.c (7)))], (.le (.v 1) (.v 1))⟩,
    ⟨[(.le (.c (1)) (.v 1)), (.le (.v 1) (.c (8))), (.lt (.v 1) (.c (8))), (.lt (.v 3) (.v 1)), (.le (.c (1)) (.v 1)), (.le (.v 1) (.c (7))), (.le (.c (0)) (.v 3)), (.le (.v 3) (.c (6)))], (.le (.c (0)) (.sub (.add (.v 1) (.c (-1))) (.v 3)))⟩,
    ⟨[(.le (.c (1)) (.v 1)), (.le (.v 1) (.c (8))), (.lt (.v 1) (.c (8))), (.lt (.v 3) (.v 1)), (.le (.c (1)) (.v 1)), (.le (.v 1) (.c (7))), (.le (.c (0)) (.v 3)), (.le (.v 3) (.c (6)))], (.lt (.sub (.add (.v 1) (.c (-1))) (.v 3)) (.v 1))⟩,
    ⟨[(.le (.c (1)) (.v 1)), (.le (.v 1) (.c (8))), (.lt (.v 1) (.c (8))), (.lt (.v 3) (.v 1)), (.le (.c (1)) (.v 1)), (.le (.v 1) (.c (7))), (.le (.c (0)) (.v 3)), (.le (.v 3) (.c (6)))], (.le (.c (1)) (.sub (.v 1) (.v 3)))⟩,
    ⟨[(.le (.c (1)) (.v 1)), (.le (.v 1) (.c (8))), (.lt (.v 1) (.c (8))), (.lt (.v 3) (.v 1)), (.le (.c (1)) (.v 1)), (.le (.v 1) (.c (7))), (.le (.c (0)) (.v 3)), (.le (.v 3) (.c (6)))], (.lt (.sub (.v 1) (.add (.v 3) (.c (1)))) (.sub (.v 1) (.v 3)))⟩,
    ⟨[(.le (.c (1)) (.v 1)), (.le (.v 1) (.c (8))), (.le (.c (8)) (.v 1)), (.lt (.v 2) (.v 1)), (.le (.c (8)) (.v 1)), (.le (.v 1) (.c (8))), (.le (.c (0)) (.v 2)), (.le (.v 2) (.c (7)))], (.lt (.sub (.v 1) (.add (.v 2) (.c (1)))) (.sub (.v 1) (.v 2)))⟩,
    ⟨[(.le (.c (1)) (.v 1)), (.le (.v 1) (.c (8))), (.lt (.v 1) (.c (8))), (.le (.v 1) (.v 4)), (.le (.c (1)) (.v 1)), (.le (.v 1) (.c (7))), (.le (.c (1)) (.v 4)), (.le (.v 4) (.c (9223372036854775807)))], (.le (.v 1) (.v 1))⟩,
    ⟨[(.le (.c (1)) (.v 1)), (.le (.v 1) (.c (8))), (.lt (.v 1) (.c (8))), (.le (.v 1) (.v 3)), (.le (.c (1)) (.v 1)), (.le (.v 1) (.c (7))), (.le (.c (1)) (.v 3)), (.le (.v 3) (.c (9223372036854775807)))], (.le (.v 1) (.v 1))⟩]) (by kernel_rfl)
    (valids_cons (by intro ρ h; first | (simp only [holdsAll, Fm.holds, T.ev] at h ⊢; omega) | (simp [holdsAll, Fm.holds, T.ev] at h ⊢; done) | (simp [holdsAll, Fm.holds, T.ev] at h ⊢; omega))
    (valids_cons (by intro ρ h; first | (simp only [holdsAll, Fm.holds, T.ev] at h ⊢; omega) | (simp [holdsAll, Fm.holds, T.ev] at h ⊢; done) | (simp [holdsAll, Fm.holds, T.ev] at h ⊢; omega))
    (valids_cons (by intro ρ h; first | (simp only [holdsAll, Fm.holds, T.ev] at h ⊢; omega) | (simp [holdsAll, Fm.holds, T.ev] at h ⊢; done) | (simp [holdsAll, Fm.holds, T.ev] at h ⊢; omega))
    (valids_cons (by intro ρ h; first | (simp only [holdsAll, Fm.holds, T.ev] at h ⊢; omega) | (simp [holdsAll, Fm.holds, T.ev] at h ⊢; done) | (simp [holdsAll, Fm.holds, T.ev] at h ⊢; omega))
    (valids_cons (by intro ρ h; first | (simp only [holdsAll, Fm.holds, T.ev] at h ⊢; omega) | (simp [holdsAll, Fm.holds, T.ev] at h ⊢; done) | (simp [holdsAll, Fm.holds, T.ev] at h ⊢; omega))
    (valids_cons (by intro ρ h; first | (simp only [holdsAll, Fm.holds, T.ev] at h ⊢; omega) | (simp [holdsAll, Fm.holds, T.ev] at h ⊢; done) | (simp [holdsAll, Fm.holds, T.ev] at h ⊢; omega))
    (valids_cons (by intro ρ h; first | (simp only [holdsAll, Fm.holds, T.ev] at h ⊢; omega) | (simp [holdsAll, Fm.holds, T.ev] at h ⊢; done) | (simp [holdsAll, Fm.holds, T.ev] at h ⊢; omega))
    (valids_cons (by intro ρ h; first | (simp only [holdsAll, Fm.holds, T.ev] at h ⊢; omega) | (simp [holdsAll, Fm.holds, T.ev] at h ⊢; done) | (simp [holdsAll, Fm.holds, T.ev] at h ⊢; omega))
    (valids_cons (by intro ρ h; first | (simp only [holdsAll, Fm.holds, T.ev] at h ⊢; omega) | (simp [holdsAll, Fm.holds, T.ev] at h ⊢; done) | (simp [holdsAll, Fm.holds, T.ev] at h ⊢; omega))
    (valids_cons (by intro ρ h; first | (simp only [holdsAll, Fm.holds, T.ev] at h ⊢; omega) | (simp [holdsAll, Fm.holds, T.ev] at h ⊢; done) | (simp [holdsAll, Fm.holds, T.ev] at h ⊢; omega))
    (valids_cons (by intro ρ h; first | (simp only [holdsAll, Fm.holds, T.ev] at h ⊢; omega) | (simp [holdsAll, Fm.holds, T.ev] at h ⊢; done) | (simp [holdsAll, Fm.holds, T.ev] at h ⊢; omega))
    (valids_cons (by intro ρ h; first | (simp only [holdsAll, Fm.holds, T.ev] at h ⊢; omega) | (simp [holdsAll, Fm.holds, T.ev] at h ⊢; done) | (simp [holdsAll, Fm.holds, T.ev] at h ⊢; omega))
    (valids_cons (by intro ρ h; first | (simp only [holdsAll, Fm.holds, T.ev] at h ⊢; omega) | (simp [holdsAll, Fm.holds, T.ev] at h ⊢; done) | (simp [holdsAll, Fm.holds, T.ev] at h ⊢; omega))
    (valids_cons (by intro ρ h; first | (simp only [holdsAll, Fm.holds, T.ev] at h ⊢; omega) | (simp [holdsAll, Fm.holds, T.ev] at h ⊢; done) | (simp [holdsAll, Fm.holds, T.ev] at h ⊢; omega))
    (valids_nil)))))))))))))))
noncomputable def env73 : Env := { P := Tryz.prog, con := (73, con73) :: env27.con, inl := [], ann := anns }
theorem env73ok : ConOK env73 := ConOK.cons fn73 env27ok
noncomputable def con155 : Contract := conOf Tryz.prog 2000 2000 false ((Tryz.prog.funcs[155]?).getD default)
theorem fn155 : FnOK Tryz.prog 155 con155 := checkFn_ok (env := env73) env73ok (fuel := 200) (vcs := []) (by kernel_rfl)
    (valids_nil)
noncomputable def env155 : Env := { P := Tryz.prog, con := (155, con155) :: env73.con, inl := [], ann := anns }
theorem env155ok : ConOK env155 := ConOK.cons fn155 env73ok
noncomputable def con102 : Contract := conOfX Tryz.prog 1099511627776 1099511627776 [] [] [] [(.eq (.v 2) (.v 0))] ((Tryz.prog.funcs[102]?).getD default)
theorem fn102 : FnOK Tryz.prog 102 con102 := checkFn_ok (env := env155) env155ok (fuel := 200) (vcs := [⟨[(.le (.v 0) (.v 1)), (.or (.eq (.v 2) (.c (0))) (.eq (.v 0) (.c (0)))), (.eq (.v 2) (.c (1))), (.le (.c (0)) (.v 0)), (.le (.v 0) (.c (1099511627776))), (.le (.c (0)) (.v 1)), (.le (.v 1) (.c (9223372036854775807))), (.le (.c (1)) (.v 2)), (.le (.v 2) (.c (1)))], (.eq (.c (0)) (.v 0))⟩]) (by kernel_rfl)
    (valids_cons (by intro ρ h; first | (simp only [holdsAll, Fm.holds, T.ev] at h ⊢; omega) | (simp [holdsAll, Fm.holds, T.ev] at h ⊢; done) | (simp [holdsAll, Fm.holds, T.ev] at h ⊢; omega))
    (valids_nil))
noncomputable def env102 : Env := { P := Tryz.prog, con := (102, con102) :: env155.con, inl := [], ann := anns }
theorem env102ok : ConOK env102 := ConOK.cons fn102 env155ok
noncomputable def con94 : Contract := conOfX Tryz.prog 20000000000000 20000000000000 [0] [] [] [(.eq (.v 2) (.v 0))] ((Tryz.prog.funcs[94]?).getD default)
theorem fn94 : FnOK Tryz.prog 94 con94 := checkFn_ok (env := env102) env102ok (fuel := 200) (vcs := [⟨[(.le (.v 0) (.v 1)), (.le (.c (0)) (.v 0)), (.le (.v 0) (.c (20000000000000))), (.le (.c (0)) (.v 1)), (.le (.v 1) (.c (9223372036854775807)))], (.le (.v 0) (.v 0))⟩,
    ⟨[(.le (.v 0) (.v 1)), (.le (.c (0)) (.v 0)), (.le (.v 0) (.c (20000000000000))), (.le (.c (0)) (.v 1)), (.le (.v 1) (.c (9223372036854775807)))], (.le (.v 0) (.v 0))⟩]) (by kernel_rfl)
    (valids_cons (by intro ρ h; first | (simp only [holdsAll, Fm.holds, T.ev] at h ⊢; omega) | (simp [holdsAll, Fm.holds, T.ev] at h ⊢; done) | (simp [holdsAll, Fm.holds, T.ev] at h ⊢; omega))
    (valids_cons (by intro ρ h; first | (simp only [holdsAll, Fm.holds, T.ev] at h ⊢; omega) | (simp [holdsAll, Fm.holds, T.ev] at h ⊢; done) | (simp [holdsAll, Fm.holds, T.ev] at h ⊢; omega))
    (valids_nil)))
noncomputable def env94 : Env := { P := Tryz.prog, con := (94, con94) :: env102.con, inl := [], ann := anns }
theorem env94ok : ConOK env94 := ConOK.cons fn94 env102ok
noncomputable def con156 : Contract := conOfX Tryz.prog 20000000000000 20000000000000 [0] [] [] [(.eq (.v 2) (.v 0))] ((Tryz.prog.funcs[156]?).getD default)
theorem fn156 : FnOK Tryz.prog 156 con156 := checkFn_ok (env := env94) env94ok (fuel := 200) (vcs := [⟨[(.le (.v 0) (.v 1)), (.le (.c (0)) (.v 0)), (.le (.v 0) (.c (20000000000000))), (.le (.c (0)) (.v 1)), (.le (.v 1) (.c (9223372036854775807)))], (.le (.v 0) (.v 0))⟩,
    ⟨[(.le (.v 0) (.v 1)), (.le (.c (0)) (.v 0)), (.le (.v 0) (.c (20000000000000))), (.le (.c (0)) (.v 1)), (.le (.v 1) (.c (9223372036854775807)))], (.le (.v 0) (.v 0))⟩]) (by kernel_rfl)
    (valids_cons (by intro ρ h; first | (simp only [holdsAll, Fm.holds, T.ev] at h ⊢; omega) | (simp [holdsAll, Fm.holds, T.ev] at h ⊢; done) | (simp [holdsAll, Fm.holds, T.ev] at h ⊢; omega))
    (valids_cons (by intro ρ h; first | (simp only [holdsAll, Fm.holds, T.ev] at h ⊢; omega) | (simp [holdsAll, Fm.holds, T.ev] at h ⊢; done) | (simp [holdsAll, Fm.holds, T.ev] at h ⊢; omega))
    (valids_nil)))
noncomputable def env156 : Env := { P := Tryz.prog, con := (156, con156) :: env94.con, inl := [], ann := anns }
theorem env156ok : ConOK env156 := ConOK.cons fn156 env94ok
noncomputable def con112 : Contract := conOf Tryz.prog 1099511627776 1099511627776 false ((Tryz.prog.funcs[112]?).getD default)
theorem fn112 : FnOK Tryz.prog 112 con112 := checkFn_ok (env := env156) env156ok (fuel := 200) (vcs := [⟨[(.le (.v 5) (.v 6)), (.le (.v 28) (.v 29)), (.eq (.v 28) (.v 5)), (.le (.v 30) (.v 31)), (.eq (.v 30) (.v 28)), (.le (.c (0)) (.v 5)), (.le (.v 5) (.c (1099511627776))), (.le (.c (0)) (.v 6)), (.le (.v 6) (.c (9223372036854775807))), (.le (.c (0)) (.v 28)), (.le (.v 28) (.c (1099511627776))), (.le (.c (0)) (.v 29)), (.le (.v 29) (.c (9223372036854775807))), (.le (.c (0)) (.v 30)), (.le (.v 30) (.c (20000000000000))), (.le (.c (0)) (.v 31)), (.le (.v 31) (.c (9223372036854775807)))], (.le (.v 30) (.c (1099511627776)))⟩,
    ⟨[(.le (.v 5) (.v 6)), (.le (.v 19) (.v 20)), (.eq (.v 19) (.v 5)), (.le (.v 21) (.v 22)), (.eq (.v 21) (.v 19)), (.le (.c (0)) (.v 5)), (.le (.v 5) (.c (1099511627776))), (.le (.c (0)) (.v 6)), (.le (.v 6) (.c (9223372036854775807))), (.le (.c (0)) (.v 19)), (.le (.v 19) (.c (1099511627776))), (.le (.c (0)) (.v 20)), (.le (.v 20) (.c (9223372036854775807))), (.le (.c (0)) (.v 21)), (.le (.v 21) (.c (20000000000000))), (.le (.c (0)) (.v 22)), (.le (.v 22) (.c (9223372036854775807)))], (.le (.v 21) (.c (1099511627776)))⟩,
    ⟨[(.le (.v 5) (.v 6)), (.le (.v 19) (.v 20)), (.eq (.v 19) (.v 5)), (.le (.v 21) (.v 22)), (.eq (.v 21) (.v 19)), (.le (.c (0)) (.v 5)), (.le (.v 5) (.c (1099511627776))), (.le (.c (0)) (.v 6)), (.le (.v 6) (.c (9223372036854775807))), (.le (.c (0)) (.v 19)), (.le (.v 19) (.c (1099511627776))), (.le (.c (0)) (.v 20)), (.le (.v 20) (.c (9223372036854775807))), (.le (.c (0)) (.v 21)), (.le (.v 21) (.c (20000000000000))), (.le (.c (0)) (.v 22)), (.le (.v 22) (.c (9223372036854775807)))], (.le (.v 21) (.c (1099511627776)))⟩,
    ⟨[(.le (.v 5) (.v 6)), (.le (.v 35) (.v 36)), (.eq (.v 35) (.v 5)), (.le (.v 37) (.v 38)), (.eq (.v 37) (.v 35)), (.le (.c (0)) (.v 5)), (.le (.v 5) (.c (1099511627776))), (.le (.c (0)) (.v 6)), (.le (.v 6) (.c (9223372036854775807))), (.le (.c (0)) (.v 35)), (.le (.v 35) (.c (1099511627776))), (.le (.c (0)) (.v 36)), (.le (.v 36) (.c (9223372036854775807))), (.le (.c (0)) (.v 37)), (.le (.v 37) (.c (20000000000000))), (.le (.c (0)) (.v 38)), (.le (.v 38) (.c (9223372036854775807)))], (.le (.v 37) (.c (1099511627776)))⟩,
    ⟨[(.le (.v 5) (.v 6)), (.le (.v 26) (.v 27)), (.eq (.v 26) (.v 5)), (.le (.v 28) (.v 29)), (.eq (.v 28) (.v 26)), (.le (.c (0)) (.v 5)), (.le (.v 5) (.c (1099511627776))), (.le (.c (0)) (.v 6)), (.le (.v 6) (.c (9223372036854775807))), (.le (.c (0)) (.v 26)), (.le (.v 26) (.c (1099511627776))), (.le (.c (0)) (.v 27)), (.le (.v 27) (.c (9223372036854775807))), (.le (.c (0)) (.v 28)), (.le (.v 28) (.c (20000000000000))), (.le (.c (0)) (.v 29)), (.le (.v 29) (.c (9223372036854775807)))], (.le (.v 28) (.c (1099511627776)))⟩,
    ⟨[(.le (.v 5) (.v 6)), (.le (.v 26) (.v 27)), (.eq (.v 26) (.v 5)), (.le (.v 28) (.v 29)), (.eq (.v 28) (.v 26)), (.le (.c (0)) (.v 5)), (.le (.v 5) (.c (1099511627776))), (.le (.c (0)) (.v 6)), (.le (.v 6) (.c (9223372036854775807))), (.le (.c (0)) (.v 26)), (.le (.v 26) (.c (1099511627776))), (.le (.c (0)) (.v 27)), (.le (.v 27) (.c (9223372036854775807))), (.le (.c (0)) (.v 28)), (.le (.v 28) (.c (20000000000000))), (.le (.c (0)) (.v 29)), (.le (.v 29) (.c (9223372036854775807)))], (.le (.v 28) (.c (1099511627776)))⟩,
    ⟨[(.le (.v 21) (.v 22)), (.eq (.v 21) (.c (2))), (.le (.c (0)) (.v 21)), (.le (.v 21) (.c (20000000000000))), (.le (.c (0)) (.v 22)), (.le (.v 22) (.c (9223372036854775807)))], (.le (.v 21) (.c (1099511627776)))⟩,
    ⟨[(.le (.v 34) (.v 35)), (.eq (.v 34) (.c (4))), (.le (.c (0)) (.v 34)), (.le (.v 34) (.c (20000000000000))), (.le (.c (0)) (.v 35)), (.le (.v 35) (.c (9223372036854775807)))], (.le (.v 34) (.c (1099511627776)))⟩,
    ⟨[(.le (.v 25) (.v 26)), (.eq (.v 25) (.c (3))), (.le (.c (0)) (.v 25)), (.le (.v 25) (.c (20000000000000))), (.le (.c (0)) (.v 26)), (.le (.v 26) (.c (9223372036854775807)))], (.le (.v 25) (.c (1099511627776)))⟩,
    ⟨[(.le (.v 25) (.v 26)), (.eq (.v 25) (.c (3))), (.le (.c (0)) (.v 25)), (.le (.v 25) (.c (20000000000000))), (.le (.c (0)) (.v 26)), (.le (.v 26) (.c (9223372036854775807)))], (.le (.v 25) (.c (1099511627776)))⟩,
    ⟨[(.le (.v 28) (.v 29)), (.eq (.v 28) (.c (2))), (.le (.c (0)) (.v 28)), (.le (.v 28) (.c (20000000000000))), (.le (.c (0)) (.v 29)), (.le (.v 29) (.c (9223372036854775807)))], (.le (.v 28) (.c (1099511627776)))⟩,
    ⟨[(.le (.v 41) (.v 42)), (.eq (.v 41) (.c (4))), (.le (.c (0)) (.v 41)), (.le (.v 41) (.c (20000000000000))), (.le (.c (0)) (.v 42)), (.le (.v 42) (.c (9223372036854775807)))], (.le (.v 41) (.c (1099511627776)))⟩,
    ⟨[(.le (.v 32) (.v 33)), (.eq (.v 32) (.c (3))), (.le (.c (0)) (.v 32)), (.le (.v 32) (.c (20000000000000))), (.le (.c (0)) (.v 33)), (.le (.v 33) (.c (9223372036854775807)))], (.le (.v 32) (.c (1099511627776)))⟩,
    ⟨[(.le (.v 32) (.v 33)), (.eq (.v 32) (.c (3))), (.le (.c (0)) (.v 32)), (.le (.v 32) (.c (20000000000000))), (.le (.c (0)) (.v 33)), (.le (.v 33) (.c (9223372036854775807)))], (.le (.v 32) (.c (1099511627776)))⟩]) (by kernel_rfl)
    (valids_cons (by intro ρ h; first | (simp only [holdsAll, Fm.holds, T.ev] at h ⊢; omega) | (simp [holdsAll, Fm.holds, T.ev] at h ⊢; done) | (simp [holdsAll, Fm.holds, T.ev] at h ⊢; omega))
    (valids_cons (by intro ρ h; first | (simp only [holdsAll, Fm.holds, T.ev] at h ⊢; omega) | (simp [holdsAll, Fm.holds, T.ev] at h ⊢; done) | (simp [holdsAll, Fm.holds, T.ev] at h ⊢; omega))
    (valids_cons (by intro ρ h; first | (simp only [holdsAll, Fm.holds, T.ev] at h ⊢; omega) | (simp [holdsAll, Fm.holds, T.ev] at h ⊢; done) | (simp [holdsAll, Fm.holds, T.ev] at h ⊢; omega))
    (valids_cons (by intro ρ h; first | (simp only [holdsAll, Fm.holds, T.ev] at h ⊢; omega) | (simp [holdsAll, Fm.holds, T.ev] at h ⊢; done) | (simp [holdsAll, Fm.holds, T.ev] at h ⊢; omega))
    (valids_cons (by intro ρ h; first | (simp only [holdsAll, Fm.holds, T.ev] at h ⊢; omega) | (simp [holdsAll, Fm.holds, T.ev] at h ⊢; done) | (simp [holdsAll, Fm.holds, T.ev] at h ⊢; omega))
    (valids_cons (by intro ρ h; first | (simp only [holdsAll, Fm.holds, T.ev] at h ⊢; omega) | (simp [holdsAll, Fm.holds, T.ev] at h ⊢; done) | (simp [holdsAll, Fm.holds, T.ev] at h ⊢; omega))
    (valids_cons (by intro ρ h; first | (simp only [holdsAll, Fm.holds, T.ev] at h ⊢; omega) | (simp [holdsAll, Fm.holds, T.ev] at h ⊢; done) | (simp [holdsAll, Fm.holds, T.ev] at h ⊢; omega))
    (valids_cons (by intro ρ h; first | (simp only [holdsAll, Fm.holds, T.ev] at h ⊢; omega) | (simp [holdsAll, Fm.holds, T.ev] at h ⊢; done) | (simp [holdsAll, Fm.holds, T.ev] at h ⊢; omega))
    (valids_cons (by intro ρ h; first | (simp only [holdsAll, Fm.holds, T.ev] at h ⊢; omega) | (simp [holdsAll, Fm.holds, T.ev] at h ⊢; done) | (simp [holdsAll, Fm.holds, T.ev] at h ⊢; omega))
    (valids_cons (by intro ρ h; first | (simp only [holdsAll, Fm.holds, T.ev] at h ⊢; omega) | (simp [holdsAll, Fm.holds, T.ev] at h ⊢; done) | (simp [holdsAll, Fm.holds, T.ev] at h ⊢; omega))
    (valids_cons (by intro ρ h; first | (simp only [holdsAll, Fm.holds, T.ev] at h ⊢; omega) | (simp [holdsAll, Fm.holds, T.ev] at h ⊢; done) | (simp [holdsAll, Fm.holds, T.ev] at h ⊢; omega))
    (valids_cons (by intro ρ h; first | (simp only [holdsAll, Fm.holds, T.ev] at h ⊢; omega) | (simp [holdsAll, Fm.holds, T.ev] at h ⊢; done) | (simp [holdsAll, Fm.holds, T.ev] at h ⊢; omega))
    (valids_cons (by intro ρ h; first | (simp only [holdsAll, Fm.holds, T.ev] at h ⊢; omega) | (simp [holdsAll, Fm.holds, T.ev] at h ⊢; done) | (simp [holdsAll, Fm.holds, T.ev] at h ⊢; omega))
    (valids_cons (by intro ρ h; first | (simp only [holdsAll, Fm.holds, T.ev] at h ⊢; omega) | (simp [holdsAll, Fm.holds, T.ev] at h ⊢; done) | (simp [holdsAll, Fm.holds, T.ev] at h ⊢; omega))
    (valids_nil)))))))))))))))
noncomputable def env112 : Env := { P := Tryz.prog, con := (112, con112) :: env156.con, inl := [], ann := anns }
theorem env112ok : ConOK env112 := ConOK.cons fn112 env156ok
noncomputable def con29 : Contract := conOf Tryz.prog 2000 1099511627776 false ((Tryz.prog.funcs[29]?).getD default)
theorem fn29 : FnOK Tryz.prog 29 con29 := checkFn_ok (env := env112) env112ok (fuel := 200) (vcs := []) (by kernel_rfl)
    (valids_nil)
noncomputable def env29 : Env := { P := Tryz.prog, con := (29, con29) :: env112.con, inl := [], ann := anns }
theorem env29ok : ConOK env29 := ConOK.cons fn29 env112ok
-- no contract: 123 pointcode/tags.measure 
-- no contract: 130 slices.IndexFunc[[]pointcode/tags.Tree,pointcode/tags.Tree] 
noncomputable def env130 : Env := { P := Tryz.prog, con := env29.con, inl := [130], ann := anns }
theorem env130ok : ConOK env130 := fun g c h => env29ok g c h
-- no contract: 159 slices.ContainsFunc[[]pointcode/tags.Tree,pointcode/tags.Tree] 
noncomputable def env159 : Env := { P := Tryz.prog, con := env130.con, inl := [159, 130], ann := anns }
theorem env159ok : ConOK env159 := fun g c h => env130ok g c h
-- no contract: 160 pointcode/tags.plain$1 
-- no contract: 124 pointcode/tags.plain 
noncomputable def con48 : Contract := conOf Tryz.prog 1099511627776 3 false ((Tryz.prog.funcs[48]?).getD default)
set_option maxRecDepth 100000 in
theorem fn48 : FnOK Tryz.prog 48 con48 := hand48
noncomputable def env48 : Env := { P := Tryz.prog, con := (48, con48) :: env159.con, inl := [159, 130], ann := anns }
theorem env48ok : ConOK env48 := ConOK.cons fn48 env159ok
noncomputable def con76 : Contract := conOf Tryz.prog 1099511627776 1099511627776 false ((Tryz.prog.funcs[76]?).getD default)
theorem fn76 : FnOK Tryz.prog 76 con76 := checkFn_ok (env := env48) env48ok (fuel := 200) (vcs := [⟨[(.le (.v 0) (.v 1)), (.ne (.v 0) (.c (0))), (.lt (.c (1)) (.v 0)), (.le (.v 0) (.c (8))), (.lt (.v 8) (.add (.v 0) (.c (-1)))), (.le (.c (2)) (.v 0)), (.le (.v 0) (.c (8))), (.le (.c (0)) (.v 1)), (.le (.v 1) (.c (9223372036854775807))), (.le (.c (0)) (.v 8)), (.le (.v 8) (.c (6)))], (.le (.c (1)) (.sub (.add (.v 0) (.c (-1))) (.v 8)))⟩,
    ⟨[(.le (.v 0) (.v 1)), (.ne (.v 0) (.c (0))), (.lt (.c (1)) (.v 0)), (.le (.v 0) (.c (8))), (.lt (.v 8) (.add (.v 0) (.c (-1)))), (.le (.c (2)) (.v 0)), (.le (.v 0) (.c (8))), (.le (.c (0)) (.v 1)), (.le (.v 1) (.c (9223372036854775807))), (.le (.c (0)) (.v 8)), (.le (.v 8) (.c (6)))], (.lt (.sub (.add (.v 0) (.c (-1))) (.add (.v 8) (.c (1)))) (.sub (.add (.v 0) (.c (-1))) (.v 8)))⟩,
    ⟨[(.le (.v 0) (.v 1)), (.ne (.v 0) (.c (0))), (.lt (.c (1)) (.v 0)), (.le (.v 0) (.c (8))), (.lt (.v 7) (.add (.v 0) (.c (-1)))), (.le (.c (2)) (.v 0)), (.le (.v 0) (.c (8))), (.le (.c (0)) (.v 1)), (.le (.v 1) (.c (9223372036854775807))), (.le (.c (0)) (.v 7)), (.le (.v 7) (.c (6)))], (.le (.c (1)) (.sub (.add (.v 0) (.c (-1))) (.v 7)))⟩,
    ⟨[(.le (.v 0) (.v 1)), (.ne (.v 0) (.c (0))), (.lt (.c (1)) (.v 0)), (.le (.v 0) (.c (8))), (.lt (.v 7) (.add (.v 0) (.c (-1)))), (.le (.c (2)) (.v 0)), (.le (.v 0) (.c (8))), (.le (.c (0)) (.v 1)), (.le (.v 1) (.c (9223372036854775807))), (.le (.c (0)) (.v 7)), (.le (.v 7) (.c (6)))], (.lt (.sub (.add (.v 0) (.c (-1))) (.add (.v 7) (.c (1)))) (.sub (.add (.v 0) (.c (-1))) (.v 7)))⟩,
    ⟨[(.le (.v 0) (.v 1)), (.ne (.v 0) (.c (0))), (.lt (.c (1)) (.v 0)), (.le (.v 0) (.c (8))), (.lt (.v 7) (.add (.v 0) (.c (-1)))), (.le (.c (2)) (.v 0)), (.le (.v 0) (.c (8))), (.le (.c (0)) (.v 1)), (.le (.v 1) (.c (9223372036854775807))), (.le (.c (0)) (.v 7)), (.le (.v 7) (.c (6)))], (.le (.c (1)) (.sub (.add (.v 0) (.c (-1))) (.v 7)))⟩,
    ⟨[(.le (.v 0) (.v 1)), (.ne (.v 0) (.c (0))), (.lt (.c (1)) (.v 0)), (.le (.v 0) (.c (8))), (.lt (.v 7) (.add (.v 0) (.c (-1)))), (.le (.c (2)) (.v 0)), (.le (.v 0) (.c (8))), (.le (.c (0)) (.v 1)), (.le (.v 1) (.c (9223372036854775807))), (.le (.c (0)) (.v 7)), (.le (.v 7) (.c (6)))], (.lt (.sub (.add (.v 0) (.c (-1))) (.add (.v 7) (.c (1)))) (.sub (.add (.v 0) (.c (-1))) (.v 7)))⟩,
    ⟨[(.le (.v 0) (.v 1)), (.ne (.v 0) (.c (0))), (.lt (.c (1)) (.v 0)), (.le (.v 0) (.c (8))), (.lt (.v 6) (.add (.v 0) (.c (-1)))), (.le (.c (2)) (.v 0)), (.le (.v 0) (.c (8))), (.le (.c (0)) (.v 1)), (.le (.v 1) (.c (9223372036854775807))), (.le (.c (0)) (.v 6)), (.le (.v 6) (.c (6)))], (.le (.c (1)) (.sub (.add (.v 0) (.c (-1))) (.v 6)))⟩,
    ⟨[(.le (.v 0) (.v 1)), (.ne (.v 0) (.c (0))), (.lt (.c (1)) (.v 0)), (.le (.v 0) (.c (8))), (.lt (.v 6) (.add (.v 0) (.c (-1)))), (.le (.c (2)) (.v 0)), (.le (.v 0) (.c (8))), (.le (.c (0)) (.v 1)), (.le (.v 1) (.c (9223372036854775807))), (.le (.c (0)) (.v 6)), (.le (.v 6) (.c (6)))], (.lt (.sub (.add (.v 0) (.c (-1))) (.add (.v 6) (.c (1)))) (.sub (.add (.v 0) (.c (-1))) (.v 6)))⟩,
    ⟨[(.le (.v 0) (.v 1)), (.ne (.v 0) (.c (0))), (.le (.v 0) (.c (1))), (.le (.c (0)) (.v 0)), (.le (.v 0) (.c (1))), (.le (.c (0)) (.v 1)), (.le (.v 1) (.c (9223372036854775807)))], (.lt (.c (0)) (.v 0))⟩,
    ⟨[(.le (.v 0) (.v 1)), (.ne (.v 0) (.c (0))), (.le (.v 0) (.c (1))), (.le (.c (0)) (.v 0)), (.le (.v 0) (.c (1))), (.le (.c (0)) (.v 1)), (.le (.v 1) (.c (9223372036854775807)))], (.le (.c (1)) (.v 0))⟩]) (by kernel_rfl)
    (valids_cons (by intro ρ h; first | (simp only [holdsAll, Fm.holds, T.ev] at h ⊢; omega) | (simp [holdsAll, Fm.holds, T.ev] at h ⊢; done) | (simp [holdsAll, Fm.holds, T.ev] at h ⊢; omega))
    (valids_cons (by intro ρ h; first | (simp only [holdsAll, Fm.holds, T.ev] at h ⊢; omega) | (simp [holdsAll, Fm.holds, T.ev] at h ⊢; done) | (simp [holdsAll, Fm.holds, T.ev] at h ⊢; omega))
    (valids_cons (by intro ρ h; first | (simp only [holdsAll, Fm.holds, T.ev] at h ⊢; omega) | (simp [holdsAll, Fm.holds, T.ev] at h ⊢; done) | (simp [holdsAll, Fm.holds, T.ev] at h ⊢; omega))
    (valids_cons (by intro ρ h; first | (simp only [holdsAll, Fm.holds, T.ev] at h ⊢; omega) | (simp [holdsAll, Fm.holds, T.ev] at h ⊢; done) | (simp [holdsAll, Fm.holds, T.ev] at h ⊢; omega))
    (valids_cons (by intro ρ h; first | (simp only [holdsAll, Fm.holds, T.ev] at h ⊢; omega) | (simp [holdsAll, Fm.holds, T.ev] at h ⊢; done) | (simp [holdsAll, Fm.holds, T.ev] at h ⊢; omega))
    (valids_cons (by intro ρ h; first | (simp only [holdsAll, Fm.holds, T.ev] at h ⊢; omega) | (simp [holdsAll, Fm.holds, T.ev] at h ⊢; done) | (simp [holdsAll, Fm.holds, T.ev] at h ⊢; omega))
    (valids_cons (by intro ρ h; first | (simp only [holdsAll, Fm.holds, T.ev] at h ⊢; omega) | (simp [holdsAll, Fm.holds, T.ev] at h ⊢; done) | (simp [holdsAll, Fm.holds, T.ev] at h ⊢; omega))
    (valids_cons (by intro ρ h; first | (simp only [holdsAll, Fm.holds, T.ev] at h ⊢; omega) | (simp [holdsAll, Fm.holds, T.ev] at h ⊢; done) | (simp [holdsAll, Fm.holds, T.ev] at h ⊢; omega))
    (valids_cons (by intro ρ h; first | (simp only [holdsAll, Fm.holds, T.ev] at h ⊢; omega) | (simp [holdsAll, Fm.holds, T.ev] at h ⊢; done) | (simp [holdsAll, Fm.holds, T.ev] at h ⊢; omega))
    (valids_cons (by intro ρ h; first | (simp only [holdsAll, Fm.holds, T.ev] at h ⊢; omega) | (simp [holdsAll, Fm.holds, T.ev] at h ⊢; done) | (simp [holdsAll, Fm.holds, T.ev] at h ⊢; omega))
    (valids_nil)))))))))))
noncomputable def env76 : Env := { P := Tryz.prog, con := (76, con76) :: env48.con, inl := [159, 130], ann := anns }
theorem env76ok : ConOK env76 := ConOK.cons fn76 env48ok
noncomputable def con116 : Contract := conOf Tryz.prog 1099511627776 1099511627776 false ((Tryz.prog.funcs[116]?).getD default)
theorem fn116 : FnOK Tryz.prog 116 con116 := checkFn_ok (env := env76) env76ok (fuel := 200) (vcs := []) (by kernel_rfl)
    (valids_nil)
noncomputable def env116 : Env := { P := Tryz.prog, con := (116, con116) :: env76.con, inl := [159, 130], ann := anns }
theorem env116ok : ConOK env116 := ConOK.cons fn116 env76ok
-- no contract: 158 pointcode/components.fields$1 
noncomputable def env158 : Env := { P := Tryz.prog, con := env116.con, inl := [158, 159, 130], ann := anns }
theorem env158ok : ConOK env158 := fun g c h => env116ok g c h
noncomputable def con129 : Contract := conOf Tryz.prog 1099511627776 3 false ((Tryz.prog.funcs[129]?).getD default)
theorem fn129 : FnOK Tryz.prog 129 con129 := checkFn_ok (env := env158) env158ok (fuel := 200) (vcs := []) (by kernel_rfl)
    (valids_nil)
noncomputable def env129 : Env := { P := Tryz.prog, con := (129, con129) :: env158.con, inl := [158, 159, 130], ann := anns }
theorem env129ok : ConOK env129 := ConOK.cons fn129 env158ok
-- no contract: 170 slices.EqualFunc[[]pointcode/tags.Tree,[]pointcode/tags.Tree,pointcode/tags.Tree,pointcode/tags.Tree] 
noncomputable def env170 : Env := { P := Tryz.prog, con := env129.con, inl := [170, 158, 159, 130], ann := anns }
theorem env170ok : ConOK env170 := fun g c h => env129ok g c h
-- no contract: 133 pointcode/tags.same 
noncomputable def con71 : Contract := conOf Tryz.prog 1099511627776 3 false ((Tryz.prog.funcs[71]?).getD default)
set_option maxRecDepth 100000 in
theorem fn71 : FnOK Tryz.prog 71 con71 := hand71 fn129
noncomputable def env71 : Env := { P := Tryz.prog, con := (71, con71) :: env170.con, inl := [170, 158, 159, 130], ann := anns }
theorem env71ok : ConOK env71 := ConOK.cons fn71 env170ok
noncomputable def con115 : Contract := conOf Tryz.prog 1099511627776 1099511627776 false ((Tryz.prog.funcs[115]?).getD default)
theorem fn115 : FnOK Tryz.prog 115 con115 := checkFn_ok (env := env71) env71ok (fuel := 200) (vcs := [⟨[(.le (.v 5) (.v 6)), (.ne (.v 5) (.c (0))), (.le (.c (0)) (.v 5)), (.le (.v 5) (.c (1099511627776))), (.le (.c (0)) (.v 6)), (.le (.v 6) (.c (9223372036854775807)))], (.lt (.c (0)) (.v 5))⟩,
    ⟨[(.le (.v 5) (.v 6)), (.ne (.v 5) (.c (0))), (.le (.c (0)) (.v 5)), (.le (.v 5) (.c (1099511627776))), (.le (.c (0)) (.v 6)), (.le (.v 6) (.c (9223372036854775807)))], (.le (.c (1)) (.v 5))⟩,
    ⟨[(.le (.v 5) (.v 6)), (.ne (.v 5) (.c (0))), (.ne (.add (.v 5) (.c (-1))) (.c (0))), (.le (.c (0)) (.v 5)), (.le (.v 5) (.c (1099511627776))), (.le (.c (0)) (.v 6)), (.le (.v 6) (.c (9223372036854775807)))], (.lt (.c (0)) (.add (.v 5) (.c (-1))))⟩,
    ⟨[(.le (.v 5) (.v 6)), (.ne (.v 5) (.c (0))), (.ne (.add (.v 5) (.c (-1))) (.c (0))), (.le (.c (0)) (.v 5)), (.le (.v 5) (.c (1099511627776))), (.le (.c (0)) (.v 6)), (.le (.v 6) (.c (9223372036854775807)))], (.le (.c (1)) (.add (.v 5) (.c (-1))))⟩,
    ⟨[(.le (.v 5) (.v 6)), (.ne (.v 5) (.c (0))), (.ne (.add (.v 5) (.c (-1))) (.c (0))), (.le (.c (0)) (.v 5)), (.le (.v 5) (.c (1099511627776))), (.le (.c (0)) (.v 6)), (.le (.v 6) (.c (9223372036854775807)))], (.lt (.c (0)) (.add (.v 5) (.c (-1))))⟩,
    ⟨[(.le (.v 5) (.v 6)), (.ne (.v 5) (.c (0))), (.ne (.add (.v 5) (.c (-1))) (.c (0))), (.le (.c (0)) (.v 5)), (.le (.v 5) (.c (1099511627776))), (.le (.c (0)) (.v 6)), (.le (.v 6) (.c (9223372036854775807)))], (.le (.c (1)) (.add (.v 5) (.c (-1))))⟩,
    ⟨[(.le (.v 5) (.v 6)), (.ne (.v 5) (.c (0))), (.ne (.add (.v 5) (.c (-1))) (.c (0))), (.ne (.add (.v 5) (.c (-2))) (.c (0))), (.le (.c (0)) (.v 5)), (.le (.v 5) (.c (1099511627776))), (.le (.c (0)) (.v 6)), (.le (.v 6) (.c (9223372036854775807)))], (.lt (.c (0)) (.add (.v 5) (.c (-2))))⟩,
    ⟨[(.le (.v 5) (.v 6)), (.ne (.v 5) (.c (0))), (.ne (.add (.v 5) (.c (-1))) (.c (0))), (.ne (.add (.v 5) (.c (-2))) (.c (0))), (.le (.c (0)) (.v 5)), (.le (.v 5) (.c (1099511627776))), (.le (.c (0)) (.v 6)), (.le (.v 6) (.c (9223372036854775807)))], (.le (.c (1)) (.add (.v 5) (.c (-2))))⟩,
    ⟨[(.le (.v 5) (.v 6)), (.ne (.v 5) (.c (0))), (.ne (.add (.v 5) (.c (-1))) (.c (0))), (.le (.c (0)) (.v 5)), (.le (.v 5) (.c (1099511627776))), (.le (.c (0)) (.v 6)), (.le (.v 6) (.c (9223372036854775807)))], (.lt (.c (0)) (.add (.v 5) (.c (-1))))⟩,
    ⟨[(.le (.v 5) (.v 6)), (.ne (.v 5) (.c (0))), (.ne (.add (.v 5) (.c (-1))) (.c (0))), (.le (.c (0)) (.v 5)), (.le (.v 5) (.c (1099511627776))), (.le (.c (0)) (.v 6)), (.le (.v 6) (.c (9223372036854775807)))], (.le (.c (1)) (.add (.v 5) (.c (-1))))⟩,
    ⟨[(.le (.v 5) (.v 6)), (.ne (.v 5) (.c (0))), (.ne (.add (.v 5) (.c (-1))) (.c (0))), (.le (.c (0)) (.v 5)), (.le (.v 5) (.c (1099511627776))), (.le (.c (0)) (.v 6)), (.le (.v 6) (.c (9223372036854775807)))], (.lt (.c (0)) (.add (.v 5) (.c (-1))))⟩,
    ⟨[(.le (.v 5) (.v 6)), (.ne (.v 5) (.c (0))), (.ne (.add (.v 5) (.c (-1))) (.c (0))), (.le (.c (0)) (.v 5)), (.le (.v 5) (.c (1099511627776))), (.le (.c (0)) (.v 6)), (.le (.v 6) (.c (9223372036854775807)))], (.le (.c (1)) (.add (.v 5) (.c (-1))))⟩,
    ⟨[(.le (.v 5) (.v 6)), (.ne (.v 5) (.c (0))), (.lt (.c (0)) (.v 5)), (.ne (.add (.v 5) (.c (-1))) (.c (0))), (.le (.c (1)) (.v 5)), (.le (.v 5) (.c (1099511627776))), (.le (.c (0)) (.v 6)), (.le (.v 6) (.c (9223372036854775807)))], (.lt (.c (0)) (.add (.v 5) (.c (-1))))⟩,
    ⟨[(.le (.v 5) (.v 6)), (.ne (.v 5) (.c (0))), (.lt (.c (0)) (.v 5)), (.ne (.add (.v 5) (.c (-1))) (.c (0))), (.le (.c (1)) (.v 5)), (.le (.v 5) (.c (1099511627776))), (.le (.c (0)) (.v 6)), (.le (.v 6) (.c (9223372036854775807)))], (.le (.c (1)) (.add (.v 5) (.c (-1))))⟩,
    ⟨[(.le (.v 5) (.v 6)), (.ne (.v 5) (.c (0))), (.lt (.c (0)) (.v 5)), (.ne (.add (.v 5) (.c (-1))) (.c (0))), (.le (.c (1)) (.v 5)), (.le (.v 5) (.c (1099511627776))), (.le (.c (0)) (.v 6)), (.le (.v 6) (.c (9223372036854775807)))], (.lt (.c (0)) (.add (.v 5) (.c (-1))))⟩,
    ⟨[(.le (.v 5) (.v 6)), (.ne (.v 5) (.c (0))), (.lt (.c (0)) (.v 5)), (.ne (.add (.v 5) (.c (-1))) (.c (0))), (.le (.c (1)) (.v 5)), (.le (.v 5) (.c (1099511627776))), (.le (.c (0)) (.v 6)), (.le (.v 6) (.c (9223372036854775807)))], (.le (.c (1)) (.add (.v 5) (.c (-1))))⟩,
    ⟨[(.le (.v 5) (.v 6)), (.ne (.v 5) (.c (0))), (.lt (.c (0)) (.v 5)), (.ne (.add (.v 5) (.c (-1))) (.c (0))), (.ne (.add (.v 5) (.c (-2))) (.c (0))), (.le (.c (1)) (.v 5)), (.le (.v 5) (.c (1099511627776))), (.le (.c (0)) (.v 6)), (.le (.v 6) (.c (9223372036854775807)))], (.lt (.c (0)) (.add (.v 5) (.c (-2))))⟩,
    ⟨[(.le (.v 5) (.v 6)), (.ne (.v 5) (.c (0))), (.lt (.c (0)) (.v 5)), (.ne (.add (.v 5) (.c (-1))) (.c (0))), (.ne (.add (.v 5) (.c (-2))) (.c (0))), (.le (.c (1)) (.v 5)), (.le (.v 5) (.c (1099511627776))), (.le (.c (0)) (.v 6)), (.le (.v 6) (.c (9223372036854775807)))], (.le (.c (1)) (.add (.v 5) (.c (-2))))⟩,
    ⟨[(.le (.v 5) (.v 6)), (.ne (.v 5) (.c (0))), (.lt (.c (0)) (.v 5)), (.ne (.add (.v 5) (.c (-1))) (.c (0))), (.le (.c (1)) (.v 5)), (.le (.v 5) (.c (1099511627776))), (.le (.c (0)) (.v 6)), (.le (.v 6) (.c (9223372036854775807)))], (.lt (.c (0)) (.add (.v 5) (.c (-1))))⟩,
    ⟨[(.le (.v 5) (.v 6)), (.ne (.v 5) (.c (0))), (.lt (.c (0)) (.v 5)), (.ne (.add (.v 5) (.c (-1))) (.c (0))), (.le (.c (1)) (.v 5)), (.le (.v 5) (.c (1099511627776))), (.le (.c (0)) (.v 6)), (.le (.v 6) (.c (9223372036854775807)))], (.le (.c (1)) (.add (.v 5) (.c (-1))))⟩,
    ⟨[(.le (.v 5) (.v 6)), (.ne (.v 5) (.c (0))), (.lt (.c (0)) (.v 5)), (.ne (.add (.v 5) (.c (-1))) (.c (0))), (.le (.c (1)) (.v 5)), (.le (.v 5) (.c (1099511627776))), (.le (.c (0)) (.v 6)), (.le (.v 6) (.c (9223372036854775807)))], (.lt (.c (0)) (.add (.v 5) (.c (-1))))⟩,
    ⟨[(.le (.v 5) (.v 6)), (.ne (.v 5) (.c (0))), (.lt (.c (0)) (.v 5)), (.ne (.add (.v 5) (.c (-1))) (.c (0))), (.le (.c (1)) (.v 5)), (.le (.v 5) (.c (1099511627776))), (.le (.c (0)) (.v 6)), (.le (.v 6) (.c (9223372036854775807)))], (.le (.c (1)) (.add (.v 5) (.c (-1))))⟩,
    ⟨[(.le (.v 41) (.v 42)), (.le (.v 46) (.v 47)), (.eq (.v 46) (.v 41)), (.le (.v 48) (.v 49)), (.eq (.v 48) (.v 46)), (.le (.c (0)) (.v 41)), (.le (.v 41) (.c (1099511627776))), (.le (.c (0)) (.v 42)), (.le (.v 42) (.c (9223372036854775807))), (.le (.c (0)) (.v 46)), (.le (.v 46) (.c (1099511627776))), (.le (.c (0)) (.v 47)), (.le (.v 47) (.c (9223372036854775807))), (.le (.c (0)) (.v 48)), (.le (.v 48) (.c (20000000000000))), (.le (.c (0)) (.v 49)), (.le (.v 49) (.c (9223372036854775807)))], (.le (.v 48) (.c (1099511627776)))⟩,
    ⟨[(.le (.v 41) (.v 42)), (.le (.v 46) (.v 47)), (.eq (.v 46) (.v 41)), (.le (.v 48) (.v 49)), (.eq (.v 48) (.v 46)), (.le (.c (0)) (.v 41)), (.le (.v 41) (.c (1099511627776))), (.le (.c (0)) (.v 42)), (.le (.v 42) (.c (9223372036854775807))), (.le (.c (0)) (.v 46)), (.le (.v 46) (.c (1099511627776))), (.le (.c (0)) (.v 47)), (.le (.v 47) (.c (9223372036854775807))), (.le (.c (0)) (.v 48)), (.le (.v 48) (.c (20000000000000))), (.le (.c (0)) (.v 49)), (.le (.v 49) (.c (9223372036854775807)))], (.le (.v 48) (.c (1099511627776)))⟩,
    ⟨[(.le (.v 41) (.v 42)), (.le (.v 46) (.v 47)), (.eq (.v 46) (.v 41)), (.le (.v 48) (.v 49)), (.eq (.v 48) (.v 46)), (.le (.c (0)) (.v 41)), (.le (.v 41) (.c (1099511627776))), (.le (.c (0)) (.v 42)), (.le (.v 42) (.c (9223372036854775807))), (.le (.c (0)) (.v 46)), (.le (.v 46) (.c (1099511627776))), (.le (.c (0)) (.v 47)), (.le (.v 47) (.c (9223372036854775807))), (.le (.c (0)) (.v 48)), (.le (.v 48) (.c (20000000000000))), (.le (.c (0)) (.v 49)), (.le (.v 49) (.c (9223372036854775807)))], (.le (.v 48) (.c (1099511627776)))⟩,
    ⟨[(.le (.v 41) (.v 42)), (.le (.v 46) (.v 47)), (.eq (.v 46) (.v 41)), (.le (.v 48) (.v 49)), (.eq (.v 48) (.v 46)), (.le (.c (0)) (.v 41)), (.le (.v 41) (.c (1099511627776))), (.le (.c (0)) (.v 42)), (.le (.v 42) (.c (9223372036854775807))), (.le (.c (0)) (.v 46)), (.le (.v 46) (.c (1099511627776))), (.le (.c (0)) (.v 47)), (.le (.v 47) (.c (9223372036854775807))), (.le (.c (0)) (.v 48)), (.le (.v 48) (.c (20000000000000))), (.le (.c (0)) (.v 49)), (.le (.v 49) (.c (9223372036854775807)))], (.le (.v 48) (.c (1099511627776)))⟩,
    ⟨[(.le (.v 41) (.v 42)), (.le (.v 46) (.v 47)), (.eq (.v 46) (.v 41)), (.le (.v 48) (.v 49)), (.eq (.v 48) (.v 46)), (.le (.c (0)) (.v 41)), (.le (.v 41) (.c (1099511627776))), (.le (.c (0)) (.v 42)), (.le (.v 42) (.c (9223372036854775807))), (.le (.c (0)) (.v 46)), (.le (.v 46) (.c (1099511627776))), (.le (.c (0)) (.v 47)), (.le (.v 47) (.c (9223372036854775807))), (.le (.c (0)) (.v 48)), (.le (.v 48) (.c (20000000000000))), (.le (.c (0)) (.v 49)), (.le (.v 49) (.c (9223372036854775807)))], (.le (.v 48) (.c (1099511627776)))⟩,
    ⟨[(.le (.v 41) (.v 42)), (.le (.v 46) (.v 47)), (.eq (.v 46) (.v 41)), (.le (.v 48) (.v 49)), (.eq (.v 48) (.v 46)), (.le (.c (0)) (.v 41)), (.le (.v 41) (.c (1099511627776))), (.le (.c (0)) (.v 42)), (.le (.v 42) (.c (9223372036854775807))), (.le (.c (0)) (.v 46)), (.le (.v 46) (.c (1099511627776))), (.le (.c (0)) (.v 47)), (.le (.v 47) (.c (9223372036854775807))), (.le (.c (0)) (.v 48)), (.le (.v 48) (.c (20000000000000))), (.le (.c (0)) (.v 49)), (.le (.v 49) (.c (9223372036854775807)))], (.le (.v 48) (.c (1099511627776)))⟩,
    ⟨[(.le (.v 41) (.v 42)), (.le (.v 46) (.v 47)), (.eq (.v 46) (.v 41)), (.le (.v 48) (.v 49)), (.eq (.v 48) (.v 46)), (.le (.c (0)) (.v 41)), (.le (.v 41) (.c (1099511627776))), (.le (.c (0)) (.v 42)), (.le (.v 42) (.c (9223372036854775807))), (.le (.c (0)) (.v 46)), (.le (.v 46) (.c (1099511627776))), (.le (.c (0)) (.v 47)), (.le (.v 47) (.c (9223372036854775807))), (.le (.c (0)) (.v 48)), (.le (.v 48) (.c (20000000000000))), (.le (.c (0)) (.v 49)), (.le (.v 49) (.c (9223372036854775807)))], (.le (.v 48) (.c (1099511627776)))⟩,
    ⟨[(.le (.v 41) (.v 42)), (.le (.v 46) (.v 47)), (.eq (.v 46) (.v 41)), (.le (.v 48) (.v 49)), (.eq (.v 48) (.v 46)), (.le (.c (0)) (.v 41)), (.le (.v 41) (.c (1099511627776))), (.le (.c (0)) (.v 42)), (.le (.v 42) (.c (9223372036854775807))), (.le (.c (0)) (.v 46)), (.le (.v 46) (.c (1099511627776))), (.le (.c (0)) (.v 47)), (.le (.v 47) (.c (9223372036854775807))), (.le (.c (0)) (.v 48)), (.le (.v 48) (.c (20000000000000))), (.le (.c (0)) (.v 49)), (.le (.v 49) (.c (9223372036854775807)))], (.le (.v 48) (.c (1099511627776)))⟩,
    ⟨[(.le (.v 32) (.v 33)), (.le (.v 37) (.v 38)), (.eq (.v 37) (.v 32)), (.le (.v 39) (.v 40)), (.eq (.v 39) (.v 37)), (.le (.c (0)) (.v 32)), (.le (.v 32) (.c (1099511627776))), (.le (.c (0)) (.v 33)), (.le (.v 33) (.c (9223372036854775807))), (.le (.c (0)) (.v 37)), (.le (.v 37) (.c (1099511627776))), (.le (.c (0)) (.v 38)), (.le (.v 38) (.c (9223372036854775807))), (.le (.c (0)) (.v 39)), (.le (.v 39) (.c (20000000000000))), (.le (.c (0)) (.v 40)), (.le (.v 40) (.c (9223372036854775807)))], (.le (.v 39) (.c (1099511627776)))⟩,
    ⟨[(.le (.v 32) (.v 33)), (.le (.v 37) (.v 38)), (.eq (.v 37) (.v 32)), (.le (.v 39) (.v 40)), (.eq (.v 39) (.v 37)), (.le (.c (0)) (.v 32)), (.le (.v 32) (.c (1099511627776))), (.le (.c (0)) (.v 33)), (.le (.v 33) (.c (9223372036854775807))), (.le (.c (0)) (.v 37)), (.le (.v 37) (.c (1099511627776))), (.le (.c (0)) (.v 38)), (.le (.v 38) (.c (9223372036854775807))), (.le (.c (0)) (.v 39)), (.le (.v 39) (.c (20000000000000))), (.le (.c (0)) (.v 40)), (.le (.v 40) (.c (9223372036854775807)))], (.le (.v 39) (.c (1099511627776)))⟩,
    ⟨[(.le (.v 32) (.v 33)), (.le (.v 37) (.v 38)), (.eq (.v 37) (.v 32)), (.le (.v 39) (.v 40)), (.eq (.v 39) (.v 37)), (.le (.c (0)) (.v 32)), (.le (.v 32) (.c (1099511627776))), (.le (.c (0)) (.v 33)), (.le (.v 33) (.c (9223372036854775807))), (.le (.c (0)) (.v 37)), (.le (.v 37) (.c (1099511627776))), (.le (.c (0)) (.v 38)), (.le (.v 38) (.c (9223372036854775807))), (.le (.c (0)) (.v 39)), (.le (.v 39) (.c (20000000000000))), (.le (.c (0)) (.v 40)), (.le (.v 40) (.c (9223372036854775807)))], (.le (.v 39) (.c (1099511627776)))⟩,
    ⟨[(.le (.v 32) (.v 33)), (.le (.v 37) (.v 38)), (.eq (.v 37) (.v 32)), (.le (.v 39) (.v 40)), (.eq (.v 39) (.v 37)), (.le (.c (0)) (.v 32)), (.le (.v 32) (.c (1099511627776))), (.le (.c (0)) (.v 33)), (.le (.v 33) (.c (9223372036854775807))), (.le (.c (0)) (.v 37)), (.le (.v 37) (.c (1099511627776))), (.le (.c (0)) (.v 38)), (.le (.v 38) (.c (9223372036854775807))), (.le (.c (0)) (.v 39)), (.le (.v 39) (.c (20000000000000))), (.le (.c (0)) (.v 40)), (.le (.v 40) (.c (9223372036854775807)))], (.le (.v 39) (.c (1099511627776)))⟩,
    ⟨[(.le (.v 49) (.v 50)), (.le (.v 54) (.v 55)), (.eq (.v 54) (.v 49)), (.le (.v 56) (.v 57)), (.eq (.v 56) (.v 54)), (.le (.c (0)) (.v 49)), (.le (.v 49) (.c (1099511627776))), (.le (.c (0)) (.v 50)), (.le (.v 50) (.c (9223372036854775807))), (.le (.c (0)) (.v 54)), (.le (.v 54) (.c (1099511627776))), (.le (.c (0)) (.v 55)), (.le (.v 55) (.c (9223372036854775807))), (.le (.c (0)) (.v 56)), (.le (.v 56) (.c (20000000000000))), (.le (.c (0)) (.v 57)), (.le (.v 57) (.c (9223372036854775807)))], (.le (.v 56) (.c (1099511627776)))⟩,
    ⟨[(.le (.v 49) (.v 50)), (.le (.v 54) (.v 55)), (.eq (.v 54) (.v 49)), (.le (.v 56) (.v 57)), (.eq (.v 56) (.v 54)), (.le (.c (0)) (.v 49)), (.le (.v 49) (.c (1099511627776))), (.le (.c (0)) (.v 50)), (.le (.v 50) (.c (9223372036854775807))), (.le (.c (0)) (.v 54)), (.le (.v 54) (.c (1099511627776))), (.le (.c (0)) (.v 55)), (.le (.v 55) (.c (9223372036854775807))), (.le (.c (0)) (.v 56)), (.le (.v 56) (.c (20000000000000))), (.le (.c (0)) (.v 57)), (.le (.v 57) (.c (9223372036854775807)))], (.le (.v 56) (.c (1099511627776)))⟩,
    ⟨[(.le (.v 49) (.v 50)), (.le (.v 54) (.v 55)), (.eq (.v 54) (.v 49)), (.le (.v 56) (.v 57)), (.eq (.v 56) (.v 54)), (.le (.c (0)) (.v 49)), (.le (.v 49) (.c (1099511627776))), (.le (.c (0)) (.v 50)), (.le (.v 50) (.c (9223372036854775807))), (.le (.c (0)) (.v 54)), (.le (.v 54) (.c (1099511627776))), (.le (.c (0)) (.v 55)), (.le (.v 55) (.c (9223372036854775807))), (.le (.c (0)) (.v 56)), (.le (.v 56) (.c (20000000000000))), (.le (.c (0)) (.v 57)), (.le (.v 57) (.c (9223372036854775807)))], (.le (.v 56) (.c (1099511627776)))⟩,
    ⟨[(.le (.v 49) (.v 50)), (.le (.v 54) (.v 55)), (.eq (.v 54) (.v 49)), (.le (.v 56) (.v 57)), (.eq (.v 56) (.v 54)), (.le (.c (0)) (.v 49)), (.le (.v 49) (.c (1099511627776))), (.le (.c (0)) (.v 50)), (.le (.v 50) (.c (9223372036854775807))), (.le (.c (0)) (.v 54)), (.le (.v 54) (.c (1099511627776))), (.le (.c (0)) (.v 55)), (.le (.v 55) (.c (9223372036854775807))), (.le (.c (0)) (.v 56)), (.le (.v 56) (.c (20000000000000))), (.le (.c (0)) (.v 57)), (.le (.v 57) (.c (9223372036854775807)))], (.le (.v 56) (.c (1099511627776)))⟩,
    ⟨[(.le (.v 49) (.v 50)), (.le (.v 54) (.v 55)), (.eq (.v 54) (.v 49)), (.le (.v 56) (.v 57)), (.eq (.v 56) (.v 54)), (.le (.c (0)) (.v 49)), (.le (.v 49) (.c (1099511627776))), (.le (.c (0)) (.v 50)), (.le (.v 50) (.c (9223372036854775807))), (.le (.c (0)) (.v 54)), (.le (.v 54) (.c (1099511627776))), (.le (.c (0)) (.v 55)), (.le (.v 55) (.c (9223372036854775807))), (.le (.c (0)) (.v 56)), (.le (.v 56) (.c (20000000000000))), (.le (.c (0)) (.v 57)), (.le (.v 57) (.c (9223372036854775807)))], (.le (.v 56) (.c (1099511627776)))⟩,
    ⟨[(.le (.v 49) (.v 50)), (.le (.v 54) (.v 55)), (.eq (.v 54) (.v 49)), (.le (.v 56) (.v 57)), (.eq (.v 56) (.v 54)), (.le (.c (0)) (.v 49)), (.le (.v 49) (.c (1099511627776))), (.le (.c (0)) (.v 50)), (.le (.v 50) (.c (9223372036854775807))), (.le (.c (0)) (.v 54)), (.le (.v 54) (.c (1099511627776))), (.le (.c (0)) (.v 55)), (.le (.v 55) (.c (9223372036854775807))), (.le (.c (0)) (.v 56)), (.le (.v 56) (.c (20000000000000))), (.le (.c (0)) (.v 57)), (.le (.v 57) (.c (9223372036854775807)))], (.le (.v 56) (.c (1099511627776)))⟩,
    ⟨[(.le (.v 49) (.v 50)), (.le (.v 54) (.v 55)), (.eq (.v 54) (.v 49)), (.le (.v 56) (.v 57)), (.eq (.v 56) (.v 54)), (.le (.c (0)) (.v 49)), (.le (.v 49) (.c (1099511627776))), (.le (.c (0)) (.v 50)), (.le (.v 50) (.c (9223372036854775807))), (.le (.c (0)) (.v 54)), (.le (.v 54) (.c (1099511627776))), (.le (.c (0)) (.v 55)), (.le (.v 55) (.c (9223372036854775807))), (.le (.c (0)) (.v 56)), (.le (.v 56) (.c (20000000000000))), (.le (.c (0)) (.v 57)), (.le (.v 57) (.c (9223372036854775807)))], (.le (.v 56) (.c (1099511627776)))⟩,
    ⟨[(.le (.v 49) (.v 50)), (.le (.v 54) (.v 55)), (.eq (.v 54) (.v 49)), (.le (.v 56) (.v 57)), (.eq (.v 56) (.v 54)), (.le (.c (0)) (.v 49)), (.le (.v 49) (.c (1099511627776))), (.le (.c (0)) (.v 50)), (.le (.v 50) (.c (9223372036854775807))), (.le (.c (0)) (.v 54)), (.le (.v 54) (.c (1099511627776))), (.le (.c (0)) (.v 55)), (.le (.v 55) (.c (9223372036854775807))), (.le (.c (0)) (.v 56)), (.le (.v 56) (.c (20000000000000))), (.le (.c (0)) (.v 57)), (.le (.v 57) (.c (9223372036854775807)))], (.le (.v 56) (.c (1099511627776)))⟩,
    ⟨[(.le (.v 40) (.v 41)), (.le (.v 45) (.v 46)), (.eq (.v 45) (.v 40)), (.le (.v 47) (.v 48)), (.eq (.v 47) (.v 45)), (.le (.c (0)) (.v 40)), (.le (.v 40) (.c (1099511627776))), (.le (.c (0)) (.v 41)), (.le (.v 41) (.c (9223372036854775807))), (.le (.c (0)) (.v 45)), (.le (.v 45) (.c (1099511627776))), (.le (.c (0)) (.v 46)), (.le (.v 46) (.c (9223372036854775807))), (.le (.c (0)) (.v 47)), (.le (.v 47) (.c (20000000000000))), (.le (.c (0)) (.v 48)), (.le (.v 48) (.c (9223372036854775807)))], (.le (.v 47) (.c (1099511627776)))⟩,
    ⟨[(.le (.v 40) (.v 41)), (.le (.v 45) (.v 46)), (.eq (.v 45) (.v 40)), (.le (.v 47) (.v 48)), (.eq (.v 47) (.v 45)), (.le (.c (0)) (.v 40)), (.le (.v 40) (.c (1099511627776))), (.le (.c (0)) (.v 41)), (.le (.v 41) (.c (9223372036854775807))), (.le (.c (0)) (.v 45)), (.le (.v 45) (.c (1099511627776))), (.le (.c (0)) (.v 46)), (.le (.v 46) (.c (9223372036854775807))), (.le (.c (0)) (.v 47)), (.le (.v 47) (.c (20000000000000))), (.le (.c (0)) (.v 48)), (.le (.v 48) (.c (9223372036854775807)))], (.le (.v 47) (.c (1099511627776)))⟩,
    ⟨[(.le (.v 40) (.v 41)), (.le (.v 45) (.v 46)), (.eq (.v 45) (.v 40)), (.le (.v 47) (.v 48)), (.eq (.v 47) (.v 45)), (.le (.c (0)) (.v 40)), (.le (.v 40) (.c (1099511627776))), (.le (.c (0)) (.v 41)), (.le (.v 41) (.c (9223372036854775807))), (.le (.c (0)) (.v 45)), (.le (.v 45) (.c (1099511627776))), (.le (.c (0)) (.v 46)), (.le (.v 46) (.c (9223372036854775807))), (.le (.c (0)) (.v 47)), (.le (.v 47) (.c (20000000000000))), (.le (.c (0)) (.v 48)), (.le (.v 48) (.c (9223372036854775807)))], (.le (.v 47) (.c (1099511627776)))⟩,
    ⟨[(.le (.v 40) (.v 41)), (.le (.v 45) (.v 46)), (.eq (.v 45) (.v 40)), (.le (.v 47) (.v 48)), (.eq (.v 47) (.v 45)), (.le (.c (0)) (.v 40)), (.le (.v 40) (.c (1099511627776))), (.le (.c (0)) (.v 41)), (.le (.v 41) (.c (9223372036854775807))), (.le (.c (0)) (.v 45)), (.le (.v 45) (.c (1099511627776))), (.le (.c (0)) (.v 46)), (.le (.v 46) (.c (9223372036854775807))), (.le (.c (0)) (.v 47)), (.le (.v 47) (.c (20000000000000))), (.le (.c (0)) (.v 48)), (.le (.v 48) (.c (9223372036854775807)))], (.le (.v 47) (.c (1099511627776)))⟩]) (by kernel_rfl)
    (valids_cons (by intro ρ h; first | (simp only [holdsAll, Fm.holds, T.ev] at h ⊢; omega) | (simp [holdsAll, Fm.holds, T.ev] at h ⊢; done) | (simp [holdsAll, Fm.holds, T.ev] at h ⊢; omega))
    (valids_cons (by intro ρ h; first | (simp only [holdsAll, Fm.holds, T.ev] at h ⊢; omega) | (simp [holdsAll, Fm.holds, T.ev] at h ⊢; done) | (simp [holdsAll, Fm.holds, T.ev] at h ⊢; omega))
    (valids_cons (by intro ρ h; first | (simp only [holdsAll, Fm.holds, T.ev] at h ⊢; omega) | (simp [holdsAll, Fm.holds, T.ev] at h ⊢; done) | (simp [holdsAll, Fm.holds, T.ev] at h ⊢; omega))
    (valids_cons (by intro ρ h; first | (simp only [holdsAll, Fm.holds, T.ev] at h ⊢; omega) | (simp [holdsAll, Fm.holds, T.ev] at h ⊢; done) | (simp [holdsAll, Fm.holds, T.ev] at h ⊢; omega))
    (valids_cons (by intro ρ h; first | (simp only [holdsAll, Fm.holds, T.ev] at h ⊢; omega) | (simp [holdsAll, Fm.holds, T.ev] at h ⊢; done) | (simp [holdsAll, Fm.holds, T.ev] at h ⊢; omega))
    (valids_cons (by intro ρ h; first | (simp only [holdsAll, Fm.holds, T.ev] at h ⊢; omega) | (simp [holdsAll, Fm.holds, T.ev] at h ⊢; done) | (simp [holdsAll, Fm.holds, T.ev] at h ⊢; omega))
    (valids_cons (by intro ρ h; first | (simp only [holdsAll, Fm.holds, T.ev] at h ⊢; omega) | (simp [holdsAll, Fm.holds, T.ev] at h ⊢; done) | (simp [holdsAll, Fm.holds, T.ev] at h ⊢; omega))
    (valids_cons (by intro ρ h; first | (simp only [holdsAll, Fm.holds, T.ev] at h ⊢; omega) | (simp [holdsAll, Fm.holds, T.ev] at h ⊢; done) | (simp [holdsAll, Fm.holds, T.ev] at h ⊢; omega))
    (valids_cons (by intro ρ h; first | (simp only [holdsAll, Fm.holds, T.ev] at h ⊢; omega) | (simp [holdsAll, Fm.holds, T.ev] at h ⊢; done) | (simp [holdsAll, Fm.holds, T.ev] at h ⊢; omega))
    (valids_cons (by intro ρ h; first | (simp only [holdsAll, Fm.holds, T.ev] at h ⊢; omega) | (simp [holdsAll, Fm.holds, T.ev] at h ⊢; done) | (simp [holdsAll, Fm.holds, T.ev] at h ⊢; omega))
    (valids_cons (by intro ρ h; first | (simp only [holdsAll, Fm.holds, T.ev] at h ⊢; omega) | (simp [holdsAll, Fm.holds, T.ev] at h ⊢; done) | (simp [holdsAll, Fm.holds, T.ev] at h ⊢; omega))
    (valids_cons (by intro ρ h; first | (simp only [holdsAll, Fm.holds, T.ev] at h ⊢; omega) | (simp [holdsAll, Fm.holds, T.ev] at h ⊢; done) | (simp [holdsAll, Fm.holds, T.ev] at h ⊢; omega))
    (valids_cons (by intro ρ h; first | (simp only [holdsAll, Fm.holds, T.ev] at h ⊢; omega) | (simp [holdsAll, Fm.holds, T.ev] at h ⊢; done) | (simp [holdsAll, Fm.holds, T.ev] at h ⊢; omega))
    (valids_cons (by intro ρ h; first | (simp only [holdsAll, Fm.holds, T.ev] at h ⊢; omega) | (simp [holdsAll, Fm.holds, T.ev] at h ⊢; done) | (simp [holdsAll, Fm.holds, T.ev] at h ⊢; omega))
    (valids_cons (by intro ρ h; first | (simp only [holdsAll, Fm.holds, T.ev] at h ⊢; omega) | (simp [holdsAll, Fm.holds, T.ev] at h ⊢; done) | (simp [holdsAll, Fm.holds, T.ev] at h ⊢; omega))
    (valids_cons (by intro ρ h; first | (simp only [holdsAll, Fm.holds, T.ev] at h ⊢; omega) | (simp [holdsAll, Fm.holds, T.ev] at h ⊢; done) | (simp [holdsAll, Fm.holds, T.ev] at h ⊢; omega))
    (valids_cons (by intro ρ h; first | (simp only [holdsAll, Fm.holds, T.ev] at h ⊢; omega) | (simp [holdsAll, Fm.holds, T.ev] at h ⊢; done) | (simp [holdsAll, Fm.holds, T.ev] at h ⊢; omega))
    (valids_cons (by intro ρ h; first | (simp only [holdsAll, Fm.holds, T.ev] at h ⊢; omega) | (simp [holdsAll, Fm.holds, T.ev] at h ⊢; done) | (simp [holdsAll, Fm.holds, T.ev] at h ⊢; omega))
    (valids_cons (by intro ρ h; first | (simp only [holdsAll, Fm.holds, T.ev] at h ⊢; omega) | (simp [holdsAll, Fm.holds, T.ev] at h ⊢; done) | (simp [holdsAll, Fm.holds, T.ev] at h ⊢; omega))
    (valids_cons (by intro ρ h; first | (simp only [holdsAll, Fm.holds, T.ev] at h ⊢; omega) | (simp [holdsAll, Fm.holds, T.ev] at h ⊢; done) | (simp [holdsAll, Fm.holds, T.ev] at h ⊢; omega))
    (valids_cons (by intro ρ h; first | (simp only [holdsAll, Fm.holds, T.ev] at h ⊢; omega) | (simp [holdsAll, Fm.holds, T.ev] at h ⊢; done) | (simp [holdsAll, Fm.holds, T.ev] at h ⊢; omega))
    (valids_cons (by intro ρ h; first | (simp only [holdsAll, Fm.holds, T.ev] at h ⊢; omega) | (simp [holdsAll, Fm.holds, T.ev] at h ⊢; done) | (simp [holdsAll, Fm.holds, T.ev] at h ⊢; omega))
    (valids_cons (by intro ρ h; first | (simp only [holdsAll, Fm.holds, T.ev] at h ⊢; omega) | (simp [holdsAll, Fm.holds, T.ev] at h ⊢; done) | (simp [holdsAll, Fm.holds, T.ev] at h ⊢; omega))
    (valids_cons (by intro ρ h; first | (simp only [holdsAll, Fm.holds, T.ev] at h ⊢; omega) | (simp [holdsAll, Fm.holds, T.ev] at h ⊢; done) | (simp [holdsAll, Fm.holds, T.ev] at h ⊢; omega))
    (valids_cons (by intro ρ h; first | (simp only [holdsAll, Fm.holds, T.ev] at h ⊢; omega) | (simp [holdsAll, Fm.holds, T.ev] at h ⊢; done) | (simp [holdsAll, Fm.holds, T.ev] at h ⊢; omega))
    (valids_cons (by intro ρ h; first | (simp only [holdsAll, Fm.holds, T.ev] at h ⊢; omega) | (simp [holdsAll, Fm.holds, T.ev] at h ⊢; done) | (simp [holdsAll, Fm.holds, T.ev] at h ⊢; omega))
    (valids_cons (by intro ρ h; first | (simp only [holdsAll, Fm.holds, T.ev] at h ⊢; omega) | (simp [holdsAll, Fm.holds, T.ev] at h ⊢; done) | (simp [holdsAll, Fm.holds, T.ev] at h ⊢; omega))
    (valids_cons (by intro ρ h; first | (simp only [holdsAll, Fm.holds, T.ev] at h ⊢; omega) | (simp [holdsAll, Fm.holds, T.ev] at h ⊢; done) | (simp [holdsAll, Fm.holds, T.ev] at h ⊢; omega))
    (valids_cons (by intro ρ h; first | (simp only [holdsAll, Fm.holds, T.ev] at h ⊢; omega) | (simp [holdsAll, Fm.holds, T.ev] at h ⊢; done) | (simp [holdsAll, Fm.holds, T.ev] at h ⊢; omega))
    (valids_cons (by intro ρ h; first | (simp only [holdsAll, Fm.holds, T.ev] at h ⊢; omega) | (simp [holdsAll, Fm.holds, T.ev] at h ⊢; done) | (simp [holdsAll, Fm.holds, T.ev] at h ⊢; omega))
    (valids_cons (by intro ρ h; first | (simp only [holdsAll, Fm.holds, T.ev] at h ⊢; omega) | (simp [holdsAll, Fm.holds, T.ev] at h ⊢; done) | (simp [holdsAll, Fm.holds, T.ev] at h ⊢; omega))
    (valids_cons (by intro ρ h; first | (simp only [holdsAll, Fm.holds, T.ev] at h ⊢; omega) | (simp [holdsAll, Fm.holds, T.ev] at h ⊢; done) | (simp [holdsAll, Fm.holds, T.ev] at h ⊢; omega))
    (valids_cons (by intro ρ h; first | (simp only [holdsAll, Fm.holds, T.ev] at h ⊢; omega) | (simp [holdsAll, Fm.holds, T.ev] at h ⊢; done) | (simp [holdsAll, Fm.holds, T.ev] at h ⊢; omega))
    (valids_cons (by intro ρ h; first | (simp only [holdsAll, Fm.holds, T.ev] at h ⊢; omega) | (simp [holdsAll, Fm.holds, T.ev] at h ⊢; done) | (simp [holdsAll, Fm.holds, T.ev] at h ⊢; omega))
    (valids_cons (by intro ρ h; first | (simp only [holdsAll, Fm.holds, T.ev] at h ⊢; omega) | (simp [holdsAll, Fm.holds, T.ev] at h ⊢; done) | (simp [holdsAll, Fm.holds, T.ev] at h ⊢; omega))
    (valids_cons (by intro ρ h; first | (simp only [holdsAll, Fm.holds, T.ev] at h ⊢; omega) | (simp [holdsAll, Fm.holds, T.ev] at h ⊢; done) | (simp [holdsAll, Fm.holds, T.ev] at h ⊢; omega))
    (valids_cons (by intro ρ h; first | (simp only [holdsAll, Fm.holds, T.ev] at h ⊢; omega) | (simp [holdsAll, Fm.holds, T.ev] at h ⊢; done) | (simp [holdsAll, Fm.holds, T.ev] at h ⊢; omega))
    (valids_cons (by intro ρ h; first | (simp only [holdsAll, Fm.holds, T.ev] at h ⊢; omega) | (simp [holdsAll, Fm.holds, T.ev] at h ⊢; done) | (simp [holdsAll, Fm.holds, T.ev] at h ⊢; omega))
    (valids_cons (by intro ρ h; first | (simp only [holdsAll, Fm.holds, T.ev] at h ⊢; omega) | (simp [holdsAll, Fm.holds, T.ev] at h ⊢; done) | (simp [holdsAll, Fm.holds, T.ev] at h ⊢; omega))
    (valids_cons (by intro ρ h; first | (simp only [holdsAll, Fm.holds, T.ev] at h ⊢; omega) | (simp [holdsAll, Fm.holds, T.ev] at h ⊢; done) | (simp [holdsAll, Fm.holds, T.ev] at h ⊢; omega))
    (valids_cons (by intro ρ h; first | (simp only [holdsAll, Fm.holds, T.ev] at h ⊢; omega) | (simp [holdsAll, Fm.holds, T.ev] at h ⊢; done) | (simp [holdsAll, Fm.holds, T.ev] at h ⊢; omega))
    (valids_cons (by intro ρ h; first | (simp only [holdsAll, Fm.holds, T.ev] at h ⊢; omega) | (simp [holdsAll, Fm.holds, T.ev] at h ⊢; done) | (simp [holdsAll, Fm.holds, T.ev] at h ⊢; omega))
    (valids_cons (by intro ρ h; first | (simp only [holdsAll, Fm.holds, T.ev] at h ⊢; omega) | (simp [holdsAll, Fm.holds, T.ev] at h ⊢; done) | (simp [holdsAll, Fm.holds, T.ev] at h ⊢; omega))
    (valids_cons (by intro ρ h; first | (simp only [holdsAll, Fm.holds, T.ev] at h ⊢; omega) | (simp [holdsAll, Fm.holds, T.ev] at h ⊢; done) | (simp [holdsAll, Fm.holds, T.ev] at h ⊢; omega))
    (valids_cons (by intro ρ h; first | (simp only [holdsAll, Fm.holds, T.ev] at h ⊢; omega) | (simp [holdsAll, Fm.holds, T.ev] at h ⊢; done) | (simp [holdsAll, Fm.holds, T.ev] at h ⊢; omega))
    (valids_cons (by intro ρ h; first | (simp only [holdsAll, Fm.holds, T.ev] at h ⊢; omega) | (simp [holdsAll, Fm.holds, T.ev] at h ⊢; done) | (simp [holdsAll, Fm.holds, T.ev] at h ⊢; omega))
    (valids_nil)))))))))))))))))))))))))))))))))))))))))))))))
noncomputable def env115 : Env := { P := Tryz.prog, con := (115, con115) :: env71.con, inl := [170, 158, 159, 130], ann := anns }
theorem env115ok : ConOK env115 := ConOK.cons fn115 env71ok
noncomputable def con33 : Contract := conOf Tryz.prog 1099511627776 1099511627776 false ((Tryz.prog.funcs[33]?).getD default)
theorem fn33 : FnOK Tryz.prog 33 con33 := checkFn_ok (env := env115) env115ok (fuel := 200) (vcs := []) (by kernel_rfl)
    (valids_nil)
noncomputable def env33 : Env := { P := Tryz.prog, con := (33, con33) :: env115.con, inl := [170, 158, 159, 130], ann := anns }
theorem env33ok : ConOK env33 := ConOK.cons fn33 env115ok
-- no contract: 162 pointcode/tags.identifier 
noncomputable def env162 : Env := { P := Tryz.prog, con := env33.con, inl := [162, 170, 158, 159, 130], ann := anns }
theorem env162ok : ConOK env162 := fun g c h => env33ok g c h
-- no contract: 161 pointcode/tags.size 
noncomputable def env161 : Env := { P := Tryz.prog, con := env162.con, inl := [161, 162, 170, 158, 159, 130], ann := anns }
theorem env161ok : ConOK env161 := fun g c h => env162ok g c h
-- no contract: 125 pointcode/tags.long 
-- no contract: 126 pointcode/tags.encode 
-- no contract: 57 pointcode/tags.EncodeAs 
noncomputable def env57 : Env := { P := Tryz.prog, con := env161.con, inl := [57, 161, 162, 170, 158, 159, 130], ann := anns }
theorem env57ok : ConOK env57 := fun g c h => env161ok g c h
noncomputable def con54 : Contract := conOf Tryz.prog 1099511627776 65536 false ((Tryz.prog.funcs[54]?).getD default)
set_option maxRecDepth 100000 in
theorem fn54 : FnOK Tryz.prog 54 con54 := hand54
noncomputable def env54 : Env := { P := Tryz.prog, con := (54, con54) :: env57.con, inl := [57, 161, 162, 170, 158, 159, 130], ann := anns }
theorem env54ok : ConOK env54 := ConOK.cons fn54 env57ok
noncomputable def con38 : Contract := conOf Tryz.prog 2000 610000 false ((Tryz.prog.funcs[38]?).getD default)
theorem fn38 : FnOK Tryz.prog 38 con38 := checkFn_ok (env := env54) env54ok (fuel := 200) (vcs := [⟨[(.le (.v 0) (.v 1)), (.le (.v 0) (.c (16))), (.le (.v 7) (.v 8)), (.le (.v 7) (.v 6)), (.le (.v 6) (.c (16))), (.lt (.v 6) (.v 0)), (.le (.add (.v 7) (.c (1))) (.v 26)), (.le (.c (1)) (.v 0)), (.le (.v 0) (.c (16))), (.le (.c (0)) (.v 1)), (.le (.v 1) (.c (9223372036854775807))), (.le (.c (0)) (.v 6)), (.le (.v 6) (.c (15))), (.le (.c (0)) (.v 7)), (.le (.v 7) (.c (1099511627776))), (.le (.c (0)) (.v 8)), (.le (.v 8) (.c (9223372036854775807))), (.le (.c (0)) (.v 26)), (.le (.v 26) (.c (9223372036854775807)))], (.le (.add (.v 7) (.c (1))) (.add (.v 6) (.c (1))))⟩,
    ⟨[(.le (.v 0) (.v 1)), (.le (.v 0) (.c (16))), (.le (.v 7) (.v 8)), (.le (.v 7) (.v 6)), (.le (.v 6) (.c (16))), (.lt (.v 6) (.v 0)), (.le (.add (.v 7) (.c (1))) (.v 26)), (.le (.c (1)) (.v 0)), (.le (.v 0) (.c (16))), (.le (.c (0)) (.v 1)), (.le (.v 1) (.c (9223372036854775807))), (.le (.c (0)) (.v 6)), (.le (.v 6) (.c (15))), (.le (.c (0)) (.v 7)), (.le (.v 7) (.c (1099511627776))), (.le (.c (0)) (.v 8)), (.le (.v 8) (.c (9223372036854775807))), (.le (.c (0)) (.v 26)), (.le (.v 26) (.c (9223372036854775807)))], (.le (.add (.v 7) (.c (1))) (.c (1099511627776)))⟩,
    ⟨[(.le (.v 0) (.v 1)), (.le (.v 0) (.c (16))), (.le (.v 7) (.v 8)), (.le (.v 7) (.v 6)), (.le (.v 6) (.c (16))), (.lt (.v 6) (.v 0)), (.le (.add (.v 7) (.c (1))) (.v 26)), (.le (.c (1)) (.v 0)), (.le (.v 0) (.c (16))), (.le (.c (0)) (.v 1)), (.le (.v 1) (.c (9223372036854775807))), (.le (.c (0)) (.v 6)), (.le (.v 6) (.c (15))), (.le (.c (0)) (.v 7)), (.le (.v 7) (.c (1099511627776))), (.le (.c (0)) (.v 8)), (.le (.v 8) (.c (9223372036854775807))), (.le (.c (0)) (.v 26)), (.le (.v 26) (.c (9223372036854775807)))], (.le (.c (1)) (.sub (.v 0) (.v 6)))⟩,
    ⟨[(.le (.v 0) (.v 1)), (.le (.v 0) (.c (16))), (.le (.v 7) (.v 8)), (.le (.v 7) (.v 6)), (.le (.v 6) (.c (16))), (.lt (.v 6) (.v 0)), (.le (.add (.v 7) (.c (1))) (.v 26)), (.le (.c (1)) (.v 0)), (.le (.v 0) (.c (16))), (.le (.c (0)) (.v 1)), (.le (.v 1) (.c (9223372036854775807))), (.le (.c (0)) (.v 6)), (.le (.v 6) (.c (15))), (.le (.c (0)) (.v 7)), (.le (.v 7) (.c (1099511627776))), (.le (.c (0)) (.v 8)), (.le (.v 8) (.c (9223372036854775807))), (.le (.c (0)) (.v 26)), (.le (.v 26) (.c (9223372036854775807)))], (.lt (.sub (.v 0) (.add (.v 6) (.c (1)))) (.sub (.v 0) (.v 6)))⟩]) (by kernel_rfl)
    (valids_cons (by intro ρ h; first | (simp only [holdsAll, Fm.holds, T.ev] at h ⊢; omega) | (simp [holdsAll, Fm.holds, T.ev] at h ⊢; done) | (simp [holdsAll, Fm.holds, T.ev] at h ⊢; omega))
    (valids_cons (by intro ρ h; first | (simp only [holdsAll, Fm.holds, T.ev] at h ⊢; omega) | (simp [holdsAll, Fm.holds, T.ev] at h ⊢; done) | (simp [holdsAll, Fm.holds, T.ev] at h ⊢; omega))
    (valids_cons (by intro ρ h; first | (simp only [holdsAll, Fm.holds, T.ev] at h ⊢; omega) | (simp [holdsAll, Fm.holds, T.ev] at h ⊢; done) | (simp [holdsAll, Fm.holds, T.ev] at h ⊢; omega))
    (valids_cons (by intro ρ h; first | (simp only [holdsAll, Fm.holds, T.ev] at h ⊢; omega) | (simp [holdsAll, Fm.holds, T.ev] at h ⊢; done) | (simp [holdsAll, Fm.holds, T.ev] at h ⊢; omega))
    (valids_nil)))))
noncomputable def env38 : Env := { P := Tryz.prog, con := (38, con38) :: env54.con, inl := [57, 161, 162, 170, 158, 159, 130], ann := anns }
theorem env38ok : ConOK env38 := ConOK.cons fn38 env54ok
-- no contract: 127 pointcode/tags.First$1 
noncomputable def env127 : Env := { P := Tryz.prog, con := env38.con, inl := [127, 57, 161, 162, 170, 158, 159, 130], ann := anns }
theorem env127ok : ConOK env127 := fun g c h => env38ok g c h
-- no contract: 163 pointcode/tags.must conditions fail
noncomputable def env163 : Env := { P := Tryz.prog, con := env127.con, inl := [163, 127, 57, 161, 162, 170, 158, 159, 130], ann := anns }
theorem env163ok : ConOK env163 := fun g c h => env127ok g c h
-- no contract: 168 (*pointcode/tags.input).take conditions fail
noncomputable def env168 : Env := { P := Tryz.prog, con := env163.con, inl := [168, 163, 127, 57, 161, 162, 170, 158, 159, 130], ann := anns }
theorem env168ok : ConOK env168 := fun g c h => env163ok g c h
-- no contract: 164 (*pointcode/tags.input).next conditions fail
noncomputable def env164 : Env := { P := Tryz.prog, con := env168.con, inl := [164, 168, 163, 127, 57, 161, 162, 170, 158, 159, 130], ann := anns }
theorem env164ok : ConOK env164 := fun g c h => env168ok g c h
-- no contract: 165 (*pointcode/tags.decoder).number 
noncomputable def env165 : Env := { P := Tryz.prog, con := env164.con, inl := [165, 164, 168, 163, 127, 57, 161, 162, 170, 158, 159, 130], ann := anns }
theorem env165ok : ConOK env165 := fun g c h => env164ok g c h
-- no contract: 166 (*pointcode/tags.decoder).length conditions fail
noncomputable def env166 : Env := { P := Tryz.prog, con := env165.con, inl := [166, 165, 164, 168, 163, 127, 57, 161, 162, 170, 158, 159, 130], ann := anns }
theorem env166ok : ConOK env166 := fun g c h => env165ok g c h
-- no contract: 167 (*pointcode/tags.decoder).ahead conditions fail
noncomputable def env167 : Env := { P := Tryz.prog, con := env166.con, inl := [167, 166, 165, 164, 168, 163, 127, 57, 161, 162, 170, 158, 159, 130], ann := anns }
theorem env167ok : ConOK env167 := fun g c h => env166ok g c h
noncomputable def con169 : Contract := conOfX Tryz.prog 1000000 1000000 [] [] [] [(.eq (.v 2) (.v 0))] ((Tryz.prog.funcs[169]?).getD default)
theorem fn169 : FnOK Tryz.prog 169 con169 := checkFn_ok (env := env167) env167ok (fuel := 200) (vcs := [⟨[(.le (.v 0) (.v 1)), (.or (.eq (.v 2) (.c (0))) (.eq (.v 0) (.c (0)))), (.eq (.v 2) (.c (1))), (.le (.c (0)) (.v 0)), (.le (.v 0) (.c (1000000))), (.le (.c (0)) (.v 1)), (.le (.v 1) (.c (9223372036854775807))), (.le (.c (1)) (.v 2)), (.le (.v 2) (.c (1)))], (.eq (.c (0)) (.v 0))⟩]) (by kernel_rfl)
    (valids_cons (by intro ρ h; first | (simp only [holdsAll, Fm.holds, T.ev] at h ⊢; omega) | (simp [holdsAll, Fm.holds, T.ev] at h ⊢; done) | (simp [holdsAll, Fm.holds, T.ev] at h ⊢; omega))
    (valids_nil))
noncomputable def env169 : Env := { P := Tryz.prog, con := (169, con169) :: env167.con, inl := [167, 166, 165, 164, 168, 163, 127, 57, 161, 162, 170, 158, 159, 130], ann := anns }
theorem env169ok : ConOK env169 := ConOK.cons fn169 env167ok
-- no contract: 128 (*pointcode/tags.decoder).element 
-- no contract: 60 pointcode/tags.First 
noncomputable def env60 : Env := { P := Tryz.prog, con := env169.con, inl := [60, 167, 166, 165, 164, 168, 163, 127, 57, 161, 162, 170, 158, 159, 130], ann := anns }
theorem env60ok : ConOK env60 := fun g c h => env169ok g c h
noncomputable def con63 : Contract := conOf Tryz.prog 1099511627776 1099511627776 false ((Tryz.prog.funcs[63]?).getD default)
set_option maxRecDepth 100000 in
theorem fn63 : FnOK Tryz.prog 63 con63 := hand63
noncomputable def env63 : Env := { P := Tryz.prog, con := (63, con63) :: env60.con, inl := [60, 167, 166, 165, 164, 168, 163, 127, 57, 161, 162, 170, 158, 159, 130], ann := anns }
theorem env63ok : ConOK env63 := ConOK.cons fn63 env60ok
noncomputable def con41 : Contract := conOf Tryz.prog 2000 2000 false ((Tryz.prog.funcs[41]?).getD default)
theorem fn41 : FnOK Tryz.prog 41 con41 := checkFn_ok (env := env63) env63ok (fuel := 200) (vcs := [⟨[(.le (.v 7) (.v 8)), (.le (.v 7) (.c (16))), (.le (.v 14) (.v 15)), (.le (.v 14) (.v 16)), (.le (.v 16) (.c (16))), (.lt (.v 16) (.v 7)), (.le (.add (.v 14) (.c (1))) (.v 43)), (.le (.c (1)) (.v 7)), (.le (.v 7) (.c (16))), (.le (.c (0)) (.v 8)), (.le (.v 8) (.c (9223372036854775807))), (.le (.c (0)) (.v 14)), (.le (.v 14) (.c (1099511627776))), (.le (.c (0)) (.v 15)), (.le (.v 15) (.c (9223372036854775807))), (.le (.c (0)) (.v 16)), (.le (.v 16) (.c (15))), (.le (.c (0)) (.v 43)), (.le (.v 43) (.c (9223372036854775807)))], (.le (.add (.v 14) (.c (1))) (.add (.v 16) (.c (1))))⟩,
    ⟨[(.le (.v 7) (.v 8)), (.le (.v 7) (.c (16))), (.le (.v 14) (.v 15)), (.le (.v 14) (.v 16)), (.le (.v 16) (.c (16))), (.lt (.v 16) (.v 7)), (.le (.add (.v 14) (.c (1))) (.v 43)), (.le (.c (1)) (.v 7)), (.le (.v 7) (.c (16))), (.le (.c (0)) (.v 8)), (.le (.v 8) (.c (9223372036854775807))), (.le (.c (0)) (.v 14)), (.le (.v 14) (.c (1099511627776))), (.le (.c (0)) (.v 15)), (.le (.v 15) (.c (9223372036854775807))), (.le (.c (0)) (.v 16)), (.le (.v 16) (.c (15))), (.le (.c (0)) (.v 43)), (.le (.v 43) (.c (9223372036854775807)))], (.le (.add (.v 14) (.c (1))) (.c (1099511627776)))⟩,
    ⟨[(.le (.v 7) (.v 8)), (.le (.v 7) (.c (16))), (.le (.v 14) (.v 15)), (.le (.v 14) (.v 16)), (.le (.v 16) (.c (16))), (.lt (.v 16) (.v 7)), (.le (.add (.v 14) (.c (1))) (.v 43)), (.le (.c (1)) (.v 7)), (.le (.v 7) (.c (16))), (.le (.c (0)) (.v 8)), (.le (.v 8) (.c (9223372036854775807))), (.le (.c (0)) (.v 14)), (.le (.v 14) (.c (1099511627776))), (.le (.c (0)) (.v 15)), (.le (.v 15) (.c (9223372036854775807))), (.le (.c (0)) (.v 16)), (.le (.v 16) (.c (15))), (.le (.c (0)) (.v 43)), (.le (.v 43) (.c (9223372036854775807)))], (.le (.c (1)) (.sub (.v 7) (.v 16)))⟩,
    ⟨[(.le (.v 7) (.v 8)), (.le (.v 7) (.c (16))), (.le (.v 14) (.v 15)), (.le (.v 14) (.v 16)), (.le (.v 16) (.c (16))), (.lt (.v 16) (.v 7)), (.le (.add (.v 14) (.c (1))) (.v 43)), (.le (.c (1)) (.v 7)), (.le (.v 7) (.c (16))), (.le (.c (0)) (.v 8)), (.le (.v 8) (.c (9223372036854775807))), (.le (.c (0)) (.v 14)), (.le (.v 14) (.c (1099511627776))), (.le (.c (0)) (.v 15)), (.le (.v 15) (.c (9223372036854775807))), (.le (.c (0)) (.v 16)), (.le (.v 16) (.c (15))), (.le (.c (0)) (.v 43)), (.le (.v 43) (.c (9223372036854775807)))], (.lt (.sub (.v 7) (.add (.v 16) (.c (1)))) (.sub (.v 7) (.v 16)))⟩,
    ⟨[(.le (.v 7) (.v 8)), (.le (.v 7) (.c (16))), (.le (.v 14) (.v 15)), (.le (.v 14) (.v 16)), (.le (.v 16) (.c (16))), (.le (.v 7) (.v 16)), (.le (.c (0)) (.v 7)), (.le (.v 7) (.c (16))), (.le (.c (0)) (.v 8)), (.le (.v 8) (.c (9223372036854775807))), (.le (.c (0)) (.v 14)), (.le (.v 14) (.c (1099511627776))), (.le (.c (0)) (.v 15)), (.le (.v 15) (.c (9223372036854775807))), (.le (.c (0)) (.v 16)), (.le (.v 16) (.c (16)))], (.le (.v 14) (.c (2000)))⟩]) (by kernel_rfl)
    (valids_cons (by intro ρ h; first | (simp only [holdsAll, Fm.holds, T.ev] at h ⊢; omega) | (simp [holdsAll, Fm.holds, T.ev] at h ⊢; done) | (simp [holdsAll, Fm.holds, T.ev] at h ⊢; omega))
    (valids_cons (by intro ρ h; first | (simp only [holdsAll, Fm.holds, T.ev] at h ⊢; omega) | (simp [holdsAll, Fm.holds, T.ev] at h ⊢; done) | (simp [holdsAll, Fm.holds, T.ev] at h ⊢; omega))
    (valids_cons (by intro ρ h; first | (simp only [holdsAll, Fm.holds, T.ev] at h ⊢; omega) | (simp [holdsAll, Fm.holds, T.ev] at h ⊢; done) | (simp [holdsAll, Fm.holds, T.ev] at h ⊢; omega))
    (valids_cons (by intro ρ h; first | (simp only [holdsAll, Fm.holds, T.ev] at h ⊢; omega) | (simp [holdsAll, Fm.holds, T.ev] at h ⊢; done) | (simp [holdsAll, Fm.holds, T.ev] at h ⊢; omega))
    (valids_cons (by intro ρ h; first | (simp only [holdsAll, Fm.holds, T.ev] at h ⊢; omega) | (simp [holdsAll, Fm.holds, T.ev] at h ⊢; done) | (simp [holdsAll, Fm.holds, T.ev] at h ⊢; omega))
    (valids_nil))))))
noncomputable def env41 : Env := { P := Tryz.prog, con := (41, con41) :: env63.con, inl := [60, 167, 166, 165, 164, 168, 163, 127, 57, 161, 162, 170, 158, 159, 130], ann := anns }
theorem env41ok : ConOK env41 := ConOK.cons fn41 env63ok
noncomputable def envL : Env := { P := Tryz.prog, con := env41.con, inl := [60, 167, 166, 165, 164, 168, 163, 127, 57, 161, 162, 170, 158, 159, 130], ann := anns, wa := true }
theorem envLok : ConOK envL := fun g c h => env41ok g c h
theorem call26 : CallOK Tryz.prog 3 9 2000 26 (.seq (.seq (.int .u8) (.seq (.int .i64) (.seq (.int .i64) (.seq (.int .i64) (.seq (.int .u8) (.row 5 (.int .u8))))))) (.seq (treeD KT) (.seq (.row 58 (.seq (.int .u8) (.seq (.int .i64) (.seq (.int .i64) (.seq (.int .i64) (.seq (.int .u8) (.row 5 (.int .u8)))))))) (.row 5 (.int .u8))))) glL := by
  refine CallOK.nil (env := envL) envLok (fuel := 200) (vcs := []) ?_ (valids_nil) (by decide) Tryz.func26 Tryz.ntmps26 rfl (by kernel_rfl) rfl
  kernel_rfl
theorem call28 : CallOK Tryz.prog 3 9 2000 28 (.seq (.seq (.int .u8) (.seq (.int .i64) (.seq (.int .i64) (.seq (.int .i64) (.seq (.int .u8) (.row 5 (.int .u8))))))) (.seq (treeD KT) (.seq (.row 58 (.seq (.int .u8) (.seq (.int .i64) (.seq (.int .i64) (.seq (.int .i64) (.seq (.int .u8) (.row 5 (.int .u8)))))))) (.row 5 (.int .u8))))) glL := by
  refine CallOK.one (env := envL) envLok (fuel := 200) (dr := (treeD KT)) (vcs := []) ?_ (valids_nil) (by decide) Tryz.func28 Tryz.ntmps28 rfl (by kernel_rfl) build1u build1s build1z rfl rfl clos30
  kernel_rfl
noncomputable def envT32 : Env := { ((envL.drop 33).drop 33) with wa := false }
theorem envT32ok : ConOK envT32 := fun g c h => (ConOK.drop 33 (ConOK.drop 33 envLok)) g c h
theorem call32 : CallOK Tryz.prog 3 9 2000 32 (.seq (.seq (.int .u8) (.seq (.int .i64) (.seq (.int .i64) (.seq (.int .i64) (.seq (.int .u8) (.row 5 (.int .u8))))))) (.seq (treeD KT) (.seq (.row 58 (.seq (.int .u8) (.seq (.int .i64) (.seq (.int .i64) (.seq (.int .i64) (.seq (.int .u8) (.row 5 (.int .u8)))))))) (.row 5 (.int .u8))))) glL := by
  refine CallOK.two (env := envT32) envT32ok (fuel := 200) (dr := (.seq (.int .u8) (.seq (.int .i64) (.seq (.int .i64) (.seq (.int .i64) (.seq (.int .u8) (.row 5 (.int .u8)))))))) (vcs := []) ?_ (valids_nil) (by decide) Tryz.func32 Tryz.ntmps32 rfl (by decide) build1u build1s build1z rfl rfl clos34 clos36
  kernel_rfl
theorem call37 : CallOK Tryz.prog 3 9 2000 37 (.seq (.seq (.int .u8) (.seq (.int .i64) (.seq (.int .i64) (.seq (.int .i64) (.seq (.int .u8) (.row 5 (.int .u8))))))) (.seq (treeD KT) (.seq (.row 58 (.seq (.int .u8) (.seq (.int .i64) (.seq (.int .i64) (.seq (.int .i64) (.seq (.int .u8) (.row 5 (.int .u8)))))))) (.row 5 (.int .u8))))) glL := by
  refine CallOK.one (env := envL) envLok (fuel := 200) (dr := (.row 5 (.int .u8))) (vcs := []) ?_ (valids_nil) (by decide) Tryz.func37 Tryz.ntmps37 rfl (by kernel_rfl) build1u build1s build1z rfl rfl clos39
  kernel_rfl
theorem call40 : CallOK Tryz.prog 3 9 2000 40 (.seq (.seq (.int .u8) (.seq (.int .i64) (.seq (.int .i64) (.seq (.int .i64) (.seq (.int .u8) (.row 5 (.int .u8))))))) (.seq (treeD KT) (.seq (.row 58 (.seq (.int .u8) (.seq (.int .i64) (.seq (.int .i64) (.seq (.int .i64) (.seq (.int .u8) (.row 5 (.int .u8)))))))) (.row 5 (.int .u8))))) glL := by
  refine CallOK.one (env := envL) envLok (fuel := 200) (dr := (.row 58 (.seq (.int .u8) (.seq (.int .i64) (.seq (.int .i64) (.seq (.int .i64) (.seq (.int .u8) (.row 5 (.int .u8))))))))) (vcs := []) ?_ (valids_nil) (by decide) Tryz.func40 Tryz.ntmps40 rfl (by kernel_rfl) build1u build1s build1z rfl rfl clos42
  kernel_rfl

end Go.Sx
