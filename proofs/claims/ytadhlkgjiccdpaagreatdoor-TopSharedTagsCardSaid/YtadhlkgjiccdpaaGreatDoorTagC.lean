/- Part TagC of a proof: helper lemmas; no conditions. -/
import Derived.Test.YtadhlkgjiccdpaaGreatDoorTxH
import Derived.Test.YtadhlkgjiccdpaaGreatDoorL
import Derived.Test.YtadhlkgjiccdpaaGreatDoorTagD
import Derived.Test.YtadhlkgjiccdpaaGreatDoorProg
import Derived.KernelRfl

set_option linter.unusedSimpArgs false
set_option linter.unusedVariables false

namespace Go.Sx
open Go Go.Proofs

theorem build1u : Tryz.prog.underlying 35 = some (.slice 42) := Tryz.underlying35
theorem build1s : sizeAt Tryz.prog 42 = some 1 := by kernel_rfl
theorem build1z : zeroAt Tryz.prog 42 = some .nilFunc := by kernel_rfl
-- { law := 5,   apart := 44,   own := 45,   see := 46,   calls := [47, 49, 51, 53, 56, 59, 62, 65, 67, 70, 72, 75, 77, 79],   ty := 88 }
def anns : List (Nat × Nat × LoopAnn) := [(73, 0, { ivs := [], facts := [(.le (.c (1)) (.v 3)), (.le (.v 3) (.c (8)))], meas := none, keep := [], peel := 0 })]
noncomputable def env0 : Env := { P := Tryz.prog, ann := anns }
theorem env0ok : ConOK env0 := fun _ _ h => nomatch h
noncomputable def con48 : Contract := conOf Tryz.prog 1099511627776 3 false ((Tryz.prog.funcs[48]?).getD default)
set_option maxRecDepth 100000 in
theorem fn48 : FnOK Tryz.prog 48 con48 := hand48
noncomputable def env48 : Env := { P := Tryz.prog, con := (48, con48) :: env0.con, inl := [], ann := anns }
theorem env48ok : ConOK env48 := ConOK.cons fn48 env0ok
noncomputable def con50 : Contract := conOf Tryz.prog 1099511627776 3 false ((Tryz.prog.funcs[50]?).getD default)
set_option maxRecDepth 100000 in
theorem fn50 : FnOK Tryz.prog 50 con50 := hand50
noncomputable def env50 : Env := { P := Tryz.prog, con := (50, con50) :: env48.con, inl := [], ann := anns }
theorem env50ok : ConOK env50 := ConOK.cons fn50 env48ok
noncomputable def con52 : Contract := conOf Tryz.prog 1099511627776 3 false ((Tryz.prog.funcs[52]?).getD default)
set_option maxRecDepth 100000 in
theorem fn52 : FnOK Tryz.prog 52 con52 := hand52
noncomputable def env52 : Env := { P := Tryz.prog, con := (52, con52) :: env50.con, inl := [], ann := anns }
theorem env52ok : ConOK env52 := ConOK.cons fn52 env50ok
noncomputable def con54 : Contract := conOf Tryz.prog 1099511627776 65536 false ((Tryz.prog.funcs[54]?).getD default)
set_option maxRecDepth 100000 in
theorem fn54 : FnOK Tryz.prog 54 con54 := hand54
noncomputable def env54 : Env := { P := Tryz.prog, con := (54, con54) :: env52.con, inl := [], ann := anns }
theorem env54ok : ConOK env54 := ConOK.cons fn54 env52ok
noncomputable def con57 : Contract := conOf Tryz.prog 1099511627776 65536 false ((Tryz.prog.funcs[57]?).getD default)
set_option maxRecDepth 100000 in
theorem fn57 : FnOK Tryz.prog 57 con57 := hand57
noncomputable def env57 : Env := { P := Tryz.prog, con := (57, con57) :: env54.con, inl := [], ann := anns }
theorem env57ok : ConOK env57 := ConOK.cons fn57 env54ok
noncomputable def con60 : Contract := conOf Tryz.prog 1099511627776 1099511627776 false ((Tryz.prog.funcs[60]?).getD default)
set_option maxRecDepth 100000 in
theorem fn60 : FnOK Tryz.prog 60 con60 := hand60
noncomputable def env60 : Env := { P := Tryz.prog, con := (60, con60) :: env57.con, inl := [], ann := anns }
theorem env60ok : ConOK env60 := ConOK.cons fn60 env57ok
noncomputable def con63 : Contract := conOf Tryz.prog 1099511627776 1099511627776 false ((Tryz.prog.funcs[63]?).getD default)
set_option maxRecDepth 100000 in
theorem fn63 : FnOK Tryz.prog 63 con63 := hand63
noncomputable def env63 : Env := { P := Tryz.prog, con := (63, con63) :: env60.con, inl := [], ann := anns }
theorem env63ok : ConOK env63 := ConOK.cons fn63 env60ok
noncomputable def con129 : Contract := conOf Tryz.prog 1099511627776 3 false ((Tryz.prog.funcs[129]?).getD default)
theorem fn129 : FnOK Tryz.prog 129 con129 := checkFn_ok (env := env63) env63ok (fuel := 200) (vcs := []) (by kernel_rfl)
    (valids_nil)
noncomputable def env129 : Env := { P := Tryz.prog, con := (129, con129) :: env63.con, inl := [], ann := anns }
theorem env129ok : ConOK env129 := ConOK.cons fn129 env63ok
noncomputable def con66 : Contract := conOf Tryz.prog 1099511627776 3 false ((Tryz.prog.funcs[66]?).getD default)
set_option maxRecDepth 100000 in
theorem fn66 : FnOK Tryz.prog 66 con66 := hand66 fn129
noncomputable def env66 : Env := { P := Tryz.prog, con := (66, con66) :: env129.con, inl := [], ann := anns }
theorem env66ok : ConOK env66 := ConOK.cons fn66 env129ok
noncomputable def con71 : Contract := conOf Tryz.prog 1099511627776 3 false ((Tryz.prog.funcs[71]?).getD default)
set_option maxRecDepth 100000 in
theorem fn71 : FnOK Tryz.prog 71 con71 := hand71 fn129
noncomputable def env71 : Env := { P := Tryz.prog, con := (71, con71) :: env66.con, inl := [], ann := anns }
theorem env71ok : ConOK env71 := ConOK.cons fn71 env66ok
noncomputable def con73 : Contract := conOf Tryz.prog 2000 8 false ((Tryz.prog.funcs[73]?).getD default)
theorem fn73 : FnOK Tryz.prog 73 con73 := checkFn_ok (env := env71) env71ok (fuel := 200) (vcs := [⟨[(.le (.c (1)) (.v 1)), (.le (.v 1) (.c (8))), (.lt (.v 1) (.c (8))), (.le (.c (1)) (.v 1)), (.le (.v 1) (.c (7)))], (.lt (.sub (.c (8)) (.add (.v 1) (.c (1)))) (.sub (.c (8)) (.v 1)))⟩,
    ⟨[(.le (.c (1)) (.v 1)), (.le (.v 1) (.c (8))), (.lt (.v 1) (.c (8))), (.le (.c (1)) (.v 1)), (.le (.v 1) (.c (7)))], (.le (.v 1) (.v 1))⟩,
    ⟨[(.le (.c (1)) (.v 1)), (.le (.v 1) (.c (8))), (.lt (.v 1) (.c (8))), (.lt (.v 4) (.v 1)), (.le (.c (1)) (.v 1)), (.le (.v 1) (.c (7))), (.le (.c (0)) (.v 4)), (.le (.v 4) (.c (6)))], (.le (.c (0)) (.sub (.add (.v 1) (.c (-1))) (.v 4)))⟩,
    ⟨[(.le (.c (1)) (.v 1)), (.le (.v 1) (.c (8))), (.lt (.v 1) (.c (8))), (.lt (.v 4) (.v 1)), (.le (.c (1)) (.v 1)), (.le (.v 1) (.c (7))), (.le (.c (0)) (.v 4)), (.le (.v 4) (.c (6)))], (.lt (.sub (.add (.v 1) (.c (-1))) (.v 4)) (.v 1))⟩,
    ⟨[(.le (.c (1)) (.v 1)), (.le (.v 1) (.c (8))), (.lt (.v 1) (.c (8))), (.lt (.v 4) (.v 1)), (.le (.c (1)) (.v 1)), (.le (.v 1) (.c (7))), (.le (.c (0)) (.v 4)), (.le (.v 4) (.c (6)))], (.le (.c (1)) (.sub (.v 1) (.v 4)))⟩,
    ⟨[(.le (.c (1)) (.v 1)), (.le (.v 1) (.c (8))), (.lt (.v 1) (.c (8))), (.lt (.v 4) (.v 1)), (.le (.c (1)) (.v 1)), (.le (.v 1) (.c (7))), (.le (.c (0)) (.v 4)), (.le (.v 4) (.c (6)))], (.lt (.sub (.v 1) (.add (.v 4) (.c (1)))) (.sub (.v 1) (.v 4)))⟩,
    ⟨[(.le (.c (1)) (.v 1)), (.le (.v 1) (.c (8))), (.lt (.v 1) (.c (8))), (.le (.c (1)) (.v 1)), (.le (.v 1) (.c (7)))], (.le (.v 1) (.v 1))⟩,
    ⟨[(.le (.c (1)) (.v 1)), (.le (.v 1) (.c (8))), (.lt (.v 1) (.c (8))), (.lt (.v 3) (.v 1)), (.le (.c (1)) (.v 1)), (.le (.v 1) (.c (7))), (.le (.c (0)) (.v 3)), (.le (.v 3) (.c (6)))], (.le (.c (0)) (.sub (.add (.v 1) (.c (-1))) (.v 3)))⟩,
    ⟨[(.le (.c (1)) (.v 1)), (.le (.v 1) (.c (8))), (.lt (.v 1) (.c (8))), (.lt (.v 3) (.v 1)), (.le (.c (1)) (.v 1)), (.le (.v 1) (.c (7))), (.le (.c (0)) (.v 3)), (.le (.v 3) (.c (6)))], (.lt (.sub (.add (.v 1) (.c (-1))) (.v 3)) (.v 1))⟩,
    ⟨[(.le (.c (1)) (.v 1)), (.le (.v 1) (.c (8))), (.lt (.v 1) (.c (8))), (.lt (.v 3) (.v 1)), (.le (.c (1)) (.v 1)), (.le (.v 1) (.c (7))), (.le (.c (0)) (.v 3)), (.le (.v 3) (.c (6)))], (.le (.c (1)) (.sub (.v 1) (.v 3)))⟩,
    ⟨[(.le (.c (1)) (.v 1)), (.le (.v 1) (.c (8))), (.lt (.v 1) (.c (8))), (.lt (.v 3) (.v 1)), (.le (.c (1)) (.v 1)), (.le (.v 1) (.c (7))), (.le (.c (0)) (.v 3)), (.le (.v 3) (.c (6)))], (.lt (.sub (.v 1) (.add (.v 3) (.c (1)))) (.sub (.v 1) (.v 3)))⟩,
    ⟨[(.le (.c (1)) (.v 1)), (.le (.v 1) (.c (8))), (.le (.c (8)) (.v 1)), (.lt (.v 2) (.v 1)), (.le (.c (8)) (.v 1)), (.le (.v 1) (.c (8))), (.le (.c (0)) (.v 2)), (.le (.v 2) (.c (7)))], (.lt (.sub (.v 1) (.add (.v 2) (.c (1)))) (.sub (.v 1) (.v 2)))⟩,
    ⟨[(.le (.c (1)) (.v 1)), (.le (.v 1) (.c (8))), (.lt (.v 1) (.c (8))), (.le (.v 1) (.v 4)), (.le (.c (1)) (.v 1)), (.le (.v 1) (.c (7))), (.le (.c (1)) (.v 4)), (.le (.v 4) (.c (9223372036854775807)))], (.le (.v 1) (.v 1))⟩,
    ⟨[(.le (.c (1)) (.v 1)), (.le (.v 1) (.c (8))), (.lt (.v 1) (.c (8))), (.le (.v 1) (.v 3)), (.le (.c (1)) (.v 1)), (.le (.v 1) (.c (7))), (.le (.c (1)) (.v 3)), (.le (.v 3) (.c (9223372036854775807)))], (.le (.v 1) (.v 1))⟩]) (by kernel_rfl)
    (valids_cons (by intro ρ h; first | (simp only [holdsAll, Fm.holds, T.ev] at h ⊢; omega) | (simp [holdsAll, Fm.holds, T.ev] at h ⊢; done) | (simp [holdsAll, Fm.holds, T.ev] at h ⊢; omega))
    (valids_cons (by intro ρ h; first | (simp only [holdsAll, Fm.holds, T.ev] at h ⊢; omega) | (simp [holdsAll, Fm.holds, T.ev] at h ⊢; done) | (simp [holdsAll, Fm.holds, T.ev] at h ⊢; omega))
    (valids_cons (by intro ρ h; first | (simp only [holdsAll, Fm.holds, T.ev] at h ⊢; omega) | (simp [holdsAll, Fm.holds, T.ev] at h ⊢; done) | (simp [holdsAll, Fm.holds, T.ev] at h ⊢; omega))
    (valids_cons (by intro ρ h; first | (simp only [holdsAll, Fm.holds, T.ev] at h ⊢; omega) | (simp [holdsAll, Fm.holds, T.ev] at h ⊢; done) | (simp [holdsAll, Fm.holds, T.ev] at h ⊢; omega))
    (valids_cons (by intro ρ h; first | (simp only [holdsAll, Fm.holds, T.ev] at h ⊢; omega) | (simp [holdsAll, Fm.holds, T.ev] at h ⊢; done) | (simp [holdsAll, Fm.holds, T.ev] at h ⊢; omega))
    (valids_cons (by intro ρ h; first | (simp only [holdsAll, Fm.holds, T.ev] at h ⊢; omega) | (simp [holdsAll, Fm.holds, T.ev] at h ⊢; done) | (simp [holdsAll, Fm.holds, T.ev] at h ⊢; omega))
    (valids_cons (by intro ρ h; first | (simp only [holdsAll, Fm.holds, T.ev] at h ⊢; omega) | (simp [holdsAll, Fm.holds, T.ev] at h ⊢; done) | (simp [holdsAll, Fm.holds, T.ev] at h ⊢; omega))
    (valids_cons (by intro ρ h; first | (simp only [holdsAll, Fm.holds, T.ev] at h ⊢; omega) | (simp [holdsAll, Fm.holds, T.ev] at h ⊢; done) | (simp [holdsAll, Fm.holds, T.ev] at h ⊢; omega))
    (valids_cons (by intro ρ h; first | (simp only [holdsAll, Fm.holds, T.ev] at h ⊢; omega) | (simp [holdsAll, Fm.holds, T.ev] at h ⊢; done) | (simp [holdsAll, Fm.holds, T.ev] at h ⊢; omega))
    (valids_cons (by intro ρ h; first | (simp only [holdsAll, Fm.holds, T.ev] at h ⊢; omega) | (simp [holdsAll, Fm.holds, T.ev] at h ⊢; done) | (simp [holdsAll, Fm.holds, T.ev] at h ⊢; omega))
    (valids_cons (by intro ρ h; first | (simp only [holdsAll, Fm.holds, T.ev] at h ⊢; omega) | (simp [holdsAll, Fm.holds, T.ev] at h ⊢; done) | (simp [holdsAll, Fm.holds, T.ev] at h ⊢; omega))
    (valids_cons (by intro ρ h; first | (simp only [holdsAll, Fm.holds, T.ev] at h ⊢; omega) | (simp [holdsAll, Fm.holds, T.ev] at h ⊢; done) | (simp [holdsAll, Fm.holds, T.ev] at h ⊢; omega))
    (valids_cons (by intro ρ h; first | (simp only [holdsAll, Fm.holds, T.ev] at h ⊢; omega) | (simp [holdsAll, Fm.holds, T.ev] at h ⊢; done) | (simp [holdsAll, Fm.holds, T.ev] at h ⊢; omega))
    (valids_cons (by intro ρ h; first | (simp only [holdsAll, Fm.holds, T.ev] at h ⊢; omega) | (simp [holdsAll, Fm.holds, T.ev] at h ⊢; done) | (simp [holdsAll, Fm.holds, T.ev] at h ⊢; omega))
    (valids_nil)))))))))))))))
noncomputable def env73 : Env := { P := Tryz.prog, con := (73, con73) :: env71.con, inl := [], ann := anns }
theorem env73ok : ConOK env73 := ConOK.cons fn73 env71ok
noncomputable def con76 : Contract := conOf Tryz.prog 1099511627776 1099511627776 false ((Tryz.prog.funcs[76]?).getD default)
theorem fn76 : FnOK Tryz.prog 76 con76 := checkFn_ok (env := env73) env73ok (fuel := 200) (vcs := [⟨[(.le (.v 0) (.v 1)), (.ne (.v 0) (.c (0))), (.lt (.c (1)) (.v 0)), (.le (.v 0) (.c (8))), (.lt (.v 8) (.add (.v 0) (.c (-1)))), (.le (.c (2)) (.v 0)), (.le (.v 0) (.c (8))), (.le (.c (0)) (.v 1)), (.le (.v 1) (.c (9223372036854775807))), (.le (.c (0)) (.v 8)), (.le (.v 8) (.c (6)))], (.le (.c (1)) (.sub (.add (.v 0) (.c (-1))) (.v 8)))⟩,
    ⟨[(.le (.v 0) (.v 1)), (.ne (.v 0) (.c (0))), (.lt (.c (1)) (.v 0)), (.le (.v 0) (.c (8))), (.lt (.v 8) (.add (.v 0) (.c (-1)))), (.le (.c (2)) (.v 0)), (.le (.v 0) (.c (8))), (.le (.c (0)) (.v 1)), (.le (.v 1) (.c (9223372036854775807))), (.le (.c (0)) (.v 8)), (.le (.v 8) (.c (6)))], (.lt (.sub (.add (.v 0) (.c (-1))) (.add (.v 8) (.c (1)))) (.sub (.add (.v 0) (.c (-1))) (.v 8)))⟩,
    ⟨[(.le (.v 0) (.v 1)), (.ne (.v 0) (.c (0))), (.lt (.c (1)) (.v 0)), (.le (.v 0) (.c (8))), (.lt (.v 7) (.add (.v 0) (.c (-1)))), (.le (.c (2)) (.v 0)), (.le (.v 0) (.c (8))), (.le (.c (0)) (.v 1)), (.le (.v 1) (.c (9223372036854775807))), (.le (.c (0)) (.v 7)), (.le (.v 7) (.c (6)))], (.le (.c (1)) (.sub (.add (.v 0) (.c (-1))) (.v 7)))⟩,
    ⟨[(.le (.v 0) (.v 1)), (.ne (.v 0) (.c (0))), (.lt (.c (1)) (.v 0)), (.le (.v 0) (.c (8))), (.lt (.v 7) (.add (.v 0) (.c (-1)))), (.le (.c (2)) (.v 0)), (.le (.v 0) (.c (8))), (.le (.c (0)) (.v 1)), (.le (.v 1) (.c (9223372036854775807))), (.le (.c (0)) (.v 7)), (.le (.v 7) (.c (6)))], (.lt (.sub (.add (.v 0) (.c (-1))) (.add (.v 7) (.c (1)))) (.sub (.add (.v 0) (.c (-1))) (.v 7)))⟩,
    ⟨[(.le (.v 0) (.v 1)), (.ne (.v 0) (.c (0))), (.lt (.c (1)) (.v 0)), (.le (.v 0) (.c (8))), (.lt (.v 7) (.add (.v 0) (.c (-1)))), (.le (.c (2)) (.v 0)), (.le (.v 0) (.c (8))), (.le (.c (0)) (.v 1)), (.le (.v 1) (.c (9223372036854775807))), (.le (.c (0)) (.v 7)), (.le (.v 7) (.c (6)))], (.le (.c (1)) (.sub (.add (.v 0) (.c (-1))) (.v 7)))⟩,
    ⟨[(.le (.v 0) (.v 1)), (.ne (.v 0) (.c (0))), (.lt (.c (1)) (.v 0)), (.le (.v 0) (.c (8))), (.lt (.v 7) (.add (.v 0) (.c (-1)))), (.le (.c (2)) (.v 0)), (.le (.v 0) (.c (8))), (.le (.c (0)) (.v 1)), (.le (.v 1) (.c (9223372036854775807))), (.le (.c (0)) (.v 7)), (.le (.v 7) (.c (6)))], (.lt (.sub (.add (.v 0) (.c (-1))) (.add (.v 7) (.c (1)))) (.sub (.add (.v 0) (.c (-1))) (.v 7)))⟩,
    ⟨[(.le (.v 0) (.v 1)), (.ne (.v 0) (.c (0))), (.lt (.c (1)) (.v 0)), (.le (.v 0) (.c (8))), (.lt (.v 6) (.add (.v 0) (.c (-1)))), (.le (.c (2)) (.v 0)), (.le (.v 0) (.c (8))), (.le (.c (0)) (.v 1)), (.le (.v 1) (.c (9223372036854775807))), (.le (.c (0)) (.v 6)), (.le (.v 6) (.c (6)))], (.le (.c (1)) (.sub (.add (.v 0) (.c (-1))) (.v 6)))⟩,
    ⟨[(.le (.v 0) (.v 1)), (.ne (.v 0) (.c (0))), (.lt (.c (1)) (.v 0)), (.le (.v 0) (.c (8))), (.lt (.v 6) (.add (.v 0) (.c (-1)))), (.le (.c (2)) (.v 0)), (.le (.v 0) (.c (8))), (.le (.c (0)) (.v 1)), (.le (.v 1) (.c (9223372036854775807))), (.le (.c (0)) (.v 6)), (.le (.v 6) (.c (6)))], (.lt (.sub (.add (.v 0) (.c (-1))) (.add (.v 6) (.c (1)))) (.sub (.add (.v 0) (.c (-1))) (.v 6)))⟩,
    ⟨[(.le (.v 0) (.v 1)), (.ne (.v 0) (.c (0))), (.le (.v 0) (.c (1))), (.le (.c (0)) (.v 0)), (.le (.v 0) (.c (1))), (.le (.c (0)) (.v 1)), (.le (.v 1) (.c (9223372036854775807)))], (.lt (.c (0)) (.v 0))⟩,
    ⟨[(.le (.v 0) (.v 1)), (.ne (.v 0) (.c (0))), (.le (.v 0) (.c (1))), (.le (.c (0)) (.v 0)), (.le (.v 0) (.c (1))), (.le (.c (0)) (.v 1)), (.le (.v 1) (.c (9223372036854775807)))], (.le (.c (1)) (.v 0))⟩]) (by kernel_rfl)
    (valids_cons (by intro ρ h; first | (simp only [holdsAll, Fm.holds, T.ev] at h ⊢; omega) | (simp [holdsAll, Fm.holds, T.ev] at h ⊢; done) | (simp [holdsAll, Fm.holds, T.ev] at h ⊢; omega))
    (valids_cons (by intro ρ h; first | (simp only [holdsAll, Fm.holds, T.ev] at h ⊢; omega) | (simp [holdsAll, Fm.holds, T.ev] at h ⊢; done) | (simp [holdsAll, Fm.holds, T.ev] at h ⊢; omega))
    (valids_cons (by intro ρ h; first | (simp only [holdsAll, Fm.holds, T.ev] at h ⊢; omega) | (simp [holdsAll, Fm.holds, T.ev] at h ⊢; done) | (simp [holdsAll, Fm.holds, T.ev] at h ⊢; omega))
    (valids_cons (by intro ρ h; first | (simp only [holdsAll, Fm.holds, T.ev] at h ⊢; omega) | (simp [holdsAll, Fm.holds, T.ev] at h ⊢; done) | (simp [holdsAll, Fm.holds, T.ev] at h ⊢; omega))
    (valids_cons (by intro ρ h; first | (simp only [holdsAll, Fm.holds, T.ev] at h ⊢; omega) | (simp [holdsAll, Fm.holds, T.ev] at h ⊢; done) | (simp [holdsAll, Fm.holds, T.ev] at h ⊢; omega))
    (valids_cons (by intro ρ h; first | (simp only [holdsAll, Fm.holds, T.ev] at h ⊢; omega) | (simp [holdsAll, Fm.holds, T.ev] at h ⊢; done) | (simp [holdsAll, Fm.holds, T.ev] at h ⊢; omega))
    (valids_cons (by intro ρ h; first | (simp only [holdsAll, Fm.holds, T.ev] at h ⊢; omega) | (simp [holdsAll, Fm.holds, T.ev] at h ⊢; done) | (simp [holdsAll, Fm.holds, T.ev] at h ⊢; omega))
    (valids_cons (by intro ρ h; first | (simp only [holdsAll, Fm.holds, T.ev] at h ⊢; omega) | (simp [holdsAll, Fm.holds, T.ev] at h ⊢; done) | (simp [holdsAll, Fm.holds, T.ev] at h ⊢; omega))
    (valids_cons (by intro ρ h; first | (simp only [holdsAll, Fm.holds, T.ev] at h ⊢; omega) | (simp [holdsAll, Fm.holds, T.ev] at h ⊢; done) | (simp [holdsAll, Fm.holds, T.ev] at h ⊢; omega))
    (valids_cons (by intro ρ h; first | (simp only [holdsAll, Fm.holds, T.ev] at h ⊢; omega) | (simp [holdsAll, Fm.holds, T.ev] at h ⊢; done) | (simp [holdsAll, Fm.holds, T.ev] at h ⊢; omega))
    (valids_nil)))))))))))
noncomputable def env76 : Env := { P := Tryz.prog, con := (76, con76) :: env73.con, inl := [], ann := anns }
theorem env76ok : ConOK env76 := ConOK.cons fn76 env73ok
noncomputable def envL : Env := { P := Tryz.prog, con := env76.con, inl := [], ann := anns, wa := true }
theorem envLok : ConOK envL := fun g c h => env76ok g c h
theorem call47 : CallOK Tryz.prog 3 9 2000 47 (.seq (treeD KT) (.seq (.int .u8) (.seq (.row 5 (.int .u8)) (.seq (.int .u8) (.seq (.int .u32) (.seq (treeD KT) (.seq (treeD KT) (.seq (.int .i64) (.seq (.row 5 (.int .u8)) .str))))))))) glL := by
  refine CallOK.nil (env := envL) envLok (fuel := 200) (vcs := []) ?_ (valids_nil) (by decide) Tryz.func47 Tryz.ntmps47 rfl (by kernel_rfl) rfl
  kernel_rfl
theorem call49 : CallOK Tryz.prog 3 9 2000 49 (.seq (treeD KT) (.seq (.int .u8) (.seq (.row 5 (.int .u8)) (.seq (.int .u8) (.seq (.int .u32) (.seq (treeD KT) (.seq (treeD KT) (.seq (.int .i64) (.seq (.row 5 (.int .u8)) .str))))))))) glL := by
  refine CallOK.nil (env := envL) envLok (fuel := 200) (vcs := []) ?_ (valids_nil) (by decide) Tryz.func49 Tryz.ntmps49 rfl (by kernel_rfl) rfl
  kernel_rfl
theorem call51 : CallOK Tryz.prog 3 9 2000 51 (.seq (treeD KT) (.seq (.int .u8) (.seq (.row 5 (.int .u8)) (.seq (.int .u8) (.seq (.int .u32) (.seq (treeD KT) (.seq (treeD KT) (.seq (.int .i64) (.seq (.row 5 (.int .u8)) .str))))))))) glL := by
  refine CallOK.nil (env := envL) envLok (fuel := 200) (vcs := []) ?_ (valids_nil) (by decide) Tryz.func51 Tryz.ntmps51 rfl (by kernel_rfl) rfl
  kernel_rfl
theorem call53 : CallOK Tryz.prog 3 9 2000 53 (.seq (treeD KT) (.seq (.int .u8) (.seq (.row 5 (.int .u8)) (.seq (.int .u8) (.seq (.int .u32) (.seq (treeD KT) (.seq (treeD KT) (.seq (.int .i64) (.seq (.row 5 (.int .u8)) .str))))))))) glL := by
  refine CallOK.one (env := envL) envLok (fuel := 200) (dr := (.row 5 (.int .u8))) (vcs := []) ?_ (valids_nil) (by decide) Tryz.func53 Tryz.ntmps53 rfl (by kernel_rfl) build1u build1s build1z rfl rfl clos55
  kernel_rfl
theorem call56 : CallOK Tryz.prog 3 9 2000 56 (.seq (treeD KT) (.seq (.int .u8) (.seq (.row 5 (.int .u8)) (.seq (.int .u8) (.seq (.int .u32) (.seq (treeD KT) (.seq (treeD KT) (.seq (.int .i64) (.seq (.row 5 (.int .u8)) .str))))))))) glL := by
  refine CallOK.one (env := envL) envLok (fuel := 200) (dr := (.row 5 (.int .u8))) (vcs := []) ?_ (valids_nil) (by decide) Tryz.func56 Tryz.ntmps56 rfl (by kernel_rfl) build1u build1s build1z rfl rfl clos58
  kernel_rfl
theorem call59 : CallOK Tryz.prog 3 9 2000 59 (.seq (treeD KT) (.seq (.int .u8) (.seq (.row 5 (.int .u8)) (.seq (.int .u8) (.seq (.int .u32) (.seq (treeD KT) (.seq (treeD KT) (.seq (.int .i64) (.seq (.row 5 (.int .u8)) .str))))))))) glL := by
  refine CallOK.one (env := envL) envLok (fuel := 200) (dr := (treeD KT)) (vcs := []) ?_ (valids_nil) (by decide) Tryz.func59 Tryz.ntmps59 rfl (by kernel_rfl) build1u build1s build1z rfl rfl clos61
  kernel_rfl
theorem call62 : CallOK Tryz.prog 3 9 2000 62 (.seq (treeD KT) (.seq (.int .u8) (.seq (.row 5 (.int .u8)) (.seq (.int .u8) (.seq (.int .u32) (.seq (treeD KT) (.seq (treeD KT) (.seq (.int .i64) (.seq (.row 5 (.int .u8)) .str))))))))) glL := by
  refine CallOK.one (env := envL) envLok (fuel := 200) (dr := (treeD KT)) (vcs := []) ?_ (valids_nil) (by decide) Tryz.func62 Tryz.ntmps62 rfl (by kernel_rfl) build1u build1s build1z rfl rfl clos64
  kernel_rfl
theorem call65 : CallOK Tryz.prog 3 9 2000 65 (.seq (treeD KT) (.seq (.int .u8) (.seq (.row 5 (.int .u8)) (.seq (.int .u8) (.seq (.int .u32) (.seq (treeD KT) (.seq (treeD KT) (.seq (.int .i64) (.seq (.row 5 (.int .u8)) .str))))))))) glL := by
  refine CallOK.nil (env := envL) envLok (fuel := 200) (vcs := []) ?_ (valids_nil) (by decide) Tryz.func65 Tryz.ntmps65 rfl (by kernel_rfl) rfl
  kernel_rfl
theorem call67 : CallOK Tryz.prog 3 9 2000 67 (.seq (treeD KT) (.seq (.int .u8) (.seq (.row 5 (.int .u8)) (.seq (.int .u8) (.seq (.int .u32) (.seq (treeD KT) (.seq (treeD KT) (.seq (.int .i64) (.seq (.row 5 (.int .u8)) .str))))))))) glL := hcall67 clos69
theorem call70 : CallOK Tryz.prog 3 9 2000 70 (.seq (treeD KT) (.seq (.int .u8) (.seq (.row 5 (.int .u8)) (.seq (.int .u8) (.seq (.int .u32) (.seq (treeD KT) (.seq (treeD KT) (.seq (.int .i64) (.seq (.row 5 (.int .u8)) .str))))))))) glL := by
  refine CallOK.nil (env := envL) envLok (fuel := 200) (vcs := []) ?_ (valids_nil) (by decide) Tryz.func70 Tryz.ntmps70 rfl (by kernel_rfl) rfl
  kernel_rfl
theorem call72 : CallOK Tryz.prog 3 9 2000 72 (.seq (treeD KT) (.seq (.int .u8) (.seq (.row 5 (.int .u8)) (.seq (.int .u8) (.seq (.int .u32) (.seq (treeD KT) (.seq (treeD KT) (.seq (.int .i64) (.seq (.row 5 (.int .u8)) .str))))))))) glL := by
  refine CallOK.one (env := envL) envLok (fuel := 200) (dr := (.row 5 (.int .u8))) (vcs := []) ?_ (valids_nil) (by decide) Tryz.func72 Tryz.ntmps72 rfl (by kernel_rfl) build1u build1s build1z rfl rfl clos74
  kernel_rfl
theorem call75 : CallOK Tryz.prog 3 9 2000 75 (.seq (treeD KT) (.seq (.int .u8) (.seq (.row 5 (.int .u8)) (.seq (.int .u8) (.seq (.int .u32) (.seq (treeD KT) (.seq (treeD KT) (.seq (.int .i64) (.seq (.row 5 (.int .u8)) .str))))))))) glL := by
  refine CallOK.nil (env := envL) envLok (fuel := 200) (vcs := []) ?_ (valids_nil) (by decide) Tryz.func75 Tryz.ntmps75 rfl (by kernel_rfl) rfl
  kernel_rfl
theorem call77 : CallOK Tryz.prog 3 9 2000 77 (.seq (treeD KT) (.seq (.int .u8) (.seq (.row 5 (.int .u8)) (.seq (.int .u8) (.seq (.int .u32) (.seq (treeD KT) (.seq (treeD KT) (.seq (.int .i64) (.seq (.row 5 (.int .u8)) .str))))))))) glL := hcall77
theorem call79 : CallOK Tryz.prog 3 9 2000 79 (.seq (treeD KT) (.seq (.int .u8) (.seq (.row 5 (.int .u8)) (.seq (.int .u8) (.seq (.int .u32) (.seq (treeD KT) (.seq (treeD KT) (.seq (.int .i64) (.seq (.row 5 (.int .u8)) .str))))))))) glL := hcall79 clos81

end Go.Sx
