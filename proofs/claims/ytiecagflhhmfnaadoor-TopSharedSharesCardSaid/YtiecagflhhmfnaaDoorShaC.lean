/- Part ShaC of a proof: helper lemmas; no conditions. -/
import Derived.Test.YtiecagflhhmfnaaDoorShaH
import Derived.Test.YtiecagflhhmfnaaDoorL
import Derived.Test.YtiecagflhhmfnaaDoorShaD
import Derived.Test.YtiecagflhhmfnaaDoorProg
import Derived.KernelRfl

namespace Go.Sx
open Go Go.Proofs

theorem build1u : Tryd.prog.underlying 32 = some (.slice 39) := Tryd.underlying32
theorem build1s : sizeAt Tryd.prog 39 = some 1 := by kernel_rfl
theorem build1z : zeroAt Tryd.prog 39 = some .nilFunc := by kernel_rfl
-- { law := 6, apart := 46, own := 47, see := 48, calls := [49, 51, 53, 56], ty := 93 }
def anns : List (Nat × Nat × LoopAnn) := []
noncomputable def env0 : Env := { P := Tryd.prog, ann := anns }
theorem env0ok : ConOK env0 := fun _ _ h => nomatch h
-- no contract: 149 pointcode/shares.Next$1 
noncomputable def env149 : Env := { P := Tryd.prog, con := env0.con, inl := [149], ann := anns }
theorem env149ok : ConOK env149 := fun g c h => env0ok g c h
-- no contract: 150 pointcode/shares.Next$2 
noncomputable def env150 : Env := { P := Tryd.prog, con := env149.con, inl := [150, 149], ann := anns }
theorem env150ok : ConOK env150 := fun g c h => env149ok g c h
-- no contract: 152 pointcode/shares.Next$3 
noncomputable def env152 : Env := { P := Tryd.prog, con := env150.con, inl := [152, 150, 149], ann := anns }
theorem env152ok : ConOK env152 := fun g c h => env150ok g c h
-- no contract: 151 pointcode/shares.which[pointcode/plans.Choice] 
noncomputable def env151 : Env := { P := Tryd.prog, con := env152.con, inl := [151, 152, 150, 149], ann := anns }
theorem env151ok : ConOK env151 := fun g c h => env152ok g c h
-- no contract: 153 pointcode/shares.Next$4 
noncomputable def env153 : Env := { P := Tryd.prog, con := env151.con, inl := [153, 151, 152, 150, 149], ann := anns }
theorem env153ok : ConOK env153 := fun g c h => env151ok g c h
-- no contract: 204 pointcode/shares.place$1 
noncomputable def env204 : Env := { P := Tryd.prog, con := env153.con, inl := [204, 153, 151, 152, 150, 149], ann := anns }
theorem env204ok : ConOK env204 := fun g c h => env153ok g c h
-- no contract: 203 pointcode/shares.which[int] 
noncomputable def env203 : Env := { P := Tryd.prog, con := env204.con, inl := [203, 204, 153, 151, 152, 150, 149], ann := anns }
theorem env203ok : ConOK env203 := fun g c h => env204ok g c h
-- no contract: 154 pointcode/shares.place 
noncomputable def env154 : Env := { P := Tryd.prog, con := env203.con, inl := [154, 203, 204, 153, 151, 152, 150, 149], ann := anns }
theorem env154ok : ConOK env154 := fun g c h => env203ok g c h
noncomputable def con50 : Contract := conOf Tryd.prog 2000 1099511627776 false ((Tryd.prog.funcs[50]?).getD default)
theorem fn50 : FnOK Tryd.prog 50 con50 := hand50
noncomputable def env50 : Env := { P := Tryd.prog, con := (50, con50) :: env154.con, inl := [154, 203, 204, 153, 151, 152, 150, 149], ann := anns }
theorem env50ok : ConOK env50 := ConOK.cons fn50 env154ok
-- no contract: 155 pointcode/shares.Link$1 
noncomputable def env155 : Env := { P := Tryd.prog, con := env50.con, inl := [155, 154, 203, 204, 153, 151, 152, 150, 149], ann := anns }
theorem env155ok : ConOK env155 := fun g c h => env50ok g c h
-- no contract: 157 pointcode/shares.Link$2 
noncomputable def env157 : Env := { P := Tryd.prog, con := env155.con, inl := [157, 155, 154, 203, 204, 153, 151, 152, 150, 149], ann := anns }
theorem env157ok : ConOK env157 := fun g c h => env155ok g c h
-- no contract: 156 pointcode/shares.which[pointcode/api.Link] 
noncomputable def env156 : Env := { P := Tryd.prog, con := env157.con, inl := [156, 157, 155, 154, 203, 204, 153, 151, 152, 150, 149], ann := anns }
theorem env156ok : ConOK env156 := fun g c h => env157ok g c h
noncomputable def con158 : Contract := conOf Tryd.prog 2000 2000 false ((Tryd.prog.funcs[158]?).getD default)
theorem fn158 : FnOK Tryd.prog 158 con158 := checkFn_ok (env := env156) env156ok (fuel := 200) (vcs := []) (by kernel_rfl)
    (valids_nil)
noncomputable def env158 : Env := { P := Tryd.prog, con := (158, con158) :: env156.con, inl := [156, 157, 155, 154, 203, 204, 153, 151, 152, 150, 149], ann := anns }
theorem env158ok : ConOK env158 := ConOK.cons fn158 env156ok
noncomputable def con159 : Contract := conOf Tryd.prog 2000 2000 false ((Tryd.prog.funcs[159]?).getD default)
theorem fn159 : FnOK Tryd.prog 159 con159 := checkFn_ok (env := env158) env158ok (fuel := 200) (vcs := []) (by kernel_rfl)
    (valids_nil)
noncomputable def env159 : Env := { P := Tryd.prog, con := (159, con159) :: env158.con, inl := [156, 157, 155, 154, 203, 204, 153, 151, 152, 150, 149], ann := anns }
theorem env159ok : ConOK env159 := ConOK.cons fn159 env158ok
noncomputable def con52 : Contract := conOf Tryd.prog 2000 1099511627776 false ((Tryd.prog.funcs[52]?).getD default)
theorem fn52 : FnOK Tryd.prog 52 con52 := hand52
noncomputable def env52 : Env := { P := Tryd.prog, con := (52, con52) :: env159.con, inl := [156, 157, 155, 154, 203, 204, 153, 151, 152, 150, 149], ann := anns }
theorem env52ok : ConOK env52 := ConOK.cons fn52 env159ok
-- no contract: 161 pointcode/shares.Places$1 
noncomputable def env161 : Env := { P := Tryd.prog, con := env52.con, inl := [161, 156, 157, 155, 154, 203, 204, 153, 151, 152, 150, 149], ann := anns }
theorem env161ok : ConOK env161 := fun g c h => env52ok g c h
-- no contract: 160 pointcode/shares.each 
noncomputable def env160 : Env := { P := Tryd.prog, con := env161.con, inl := [160, 161, 156, 157, 155, 154, 203, 204, 153, 151, 152, 150, 149], ann := anns }
theorem env160ok : ConOK env160 := fun g c h => env161ok g c h
noncomputable def con54 : Contract := conOf Tryd.prog 2000 2000 false ((Tryd.prog.funcs[54]?).getD default)
theorem fn54 : FnOK Tryd.prog 54 con54 := checkFn_ok (env := env160) env160ok (fuel := 200) (vcs := [⟨[(.lt (.v 6) (.c (16))), (.le (.c (0)) (.v 6)), (.le (.v 6) (.c (15)))], (.lt (.sub (.c (16)) (.add (.v 6) (.c (1)))) (.sub (.c (16)) (.v 6)))⟩,
    ⟨[(.lt (.v 6) (.c (16))), (.le (.c (0)) (.v 6)), (.le (.v 6) (.c (15)))], (.lt (.sub (.c (16)) (.add (.v 6) (.c (1)))) (.sub (.c (16)) (.v 6)))⟩]) (by kernel_rfl)
    (valids_cons (by intro ρ h; first | (simp only [holdsAll, Fm.holds, T.ev] at h ⊢; omega) | (simp [holdsAll, Fm.holds, T.ev] at h ⊢; done) | (simp [holdsAll, Fm.holds, T.ev] at h ⊢; omega))
    (valids_cons (by intro ρ h; first | (simp only [holdsAll, Fm.holds, T.ev] at h ⊢; omega) | (simp [holdsAll, Fm.holds, T.ev] at h ⊢; done) | (simp [holdsAll, Fm.holds, T.ev] at h ⊢; omega))
    (valids_nil)))
noncomputable def env54 : Env := { P := Tryd.prog, con := (54, con54) :: env160.con, inl := [160, 161, 156, 157, 155, 154, 203, 204, 153, 151, 152, 150, 149], ann := anns }
theorem env54ok : ConOK env54 := ConOK.cons fn54 env160ok
-- no contract: 162 pointcode/shares.Lines$1 
noncomputable def env162 : Env := { P := Tryd.prog, con := env54.con, inl := [162, 160, 161, 156, 157, 155, 154, 203, 204, 153, 151, 152, 150, 149], ann := anns }
theorem env162ok : ConOK env162 := fun g c h => env54ok g c h
noncomputable def con57 : Contract := conOf Tryd.prog 2000 2000 false ((Tryd.prog.funcs[57]?).getD default)
theorem fn57 : FnOK Tryd.prog 57 con57 := checkFn_ok (env := env162) env162ok (fuel := 200) (vcs := [⟨[(.lt (.v 6) (.c (16))), (.le (.c (0)) (.v 6)), (.le (.v 6) (.c (15)))], (.lt (.sub (.c (16)) (.add (.v 6) (.c (1)))) (.sub (.c (16)) (.v 6)))⟩,
    ⟨[(.lt (.v 6) (.c (16))), (.le (.c (0)) (.v 6)), (.le (.v 6) (.c (15)))], (.lt (.sub (.c (16)) (.add (.v 6) (.c (1)))) (.sub (.c (16)) (.v 6)))⟩]) (by kernel_rfl)
    (valids_cons (by intro ρ h; first | (simp only [holdsAll, Fm.holds, T.ev] at h ⊢; omega) | (simp [holdsAll, Fm.holds, T.ev] at h ⊢; done) | (simp [holdsAll, Fm.holds, T.ev] at h ⊢; omega))
    (valids_cons (by intro ρ h; first | (simp only [holdsAll, Fm.holds, T.ev] at h ⊢; omega) | (simp [holdsAll, Fm.holds, T.ev] at h ⊢; done) | (simp [holdsAll, Fm.holds, T.ev] at h ⊢; omega))
    (valids_nil)))
noncomputable def env57 : Env := { P := Tryd.prog, con := (57, con57) :: env162.con, inl := [162, 160, 161, 156, 157, 155, 154, 203, 204, 153, 151, 152, 150, 149], ann := anns }
theorem env57ok : ConOK env57 := ConOK.cons fn57 env162ok
noncomputable def envL : Env := { P := Tryd.prog, con := env57.con, inl := [162, 160, 161, 156, 157, 155, 154, 203, 204, 153, 151, 152, 150, 149], ann := anns, wa := true }
theorem envLok : ConOK envL := fun g c h => env57ok g c h
theorem call49 : CallOK Tryd.prog 3 9 2000 49 (.seq (.row 221 (.seq (.int .u16) (.int .i64))) (.seq (.row 223 (.int .u8)) (.seq (.int .u8) (.seq (.row 113 (.seq (.int .u16) (.seq (.int .u16) (.int .u8)))) (.row 4 .bool))))) glL := by
  refine CallOK.nil (env := envL) envLok (fuel := 200) (vcs := []) ?_ (valids_nil) (by decide) Tryd.func49 Tryd.ntmps49 rfl (by kernel_rfl) rfl
  kernel_rfl
theorem call51 : CallOK Tryd.prog 3 9 2000 51 (.seq (.row 221 (.seq (.int .u16) (.int .i64))) (.seq (.row 223 (.int .u8)) (.seq (.int .u8) (.seq (.row 113 (.seq (.int .u16) (.seq (.int .u16) (.int .u8)))) (.row 4 .bool))))) glL := by
  refine CallOK.nil (env := envL) envLok (fuel := 200) (vcs := []) ?_ (valids_nil) (by decide) Tryd.func51 Tryd.ntmps51 rfl (by kernel_rfl) rfl
  kernel_rfl
theorem call53 : CallOK Tryd.prog 3 9 2000 53 (.seq (.row 221 (.seq (.int .u16) (.int .i64))) (.seq (.row 223 (.int .u8)) (.seq (.int .u8) (.seq (.row 113 (.seq (.int .u16) (.seq (.int .u16) (.int .u8)))) (.row 4 .bool))))) glL := by
  refine CallOK.one (env := envL) envLok (fuel := 200) (dr := (.row 3 (.int .i64))) (vcs := []) ?_ (valids_nil) (by decide) Tryd.func53 Tryd.ntmps53 rfl (by kernel_rfl) build1u build1s build1z rfl rfl clos55
  kernel_rfl
theorem call56 : CallOK Tryd.prog 3 9 2000 56 (.seq (.row 221 (.seq (.int .u16) (.int .i64))) (.seq (.row 223 (.int .u8)) (.seq (.int .u8) (.seq (.row 113 (.seq (.int .u16) (.seq (.int .u16) (.int .u8)))) (.row 4 .bool))))) glL := by
  refine CallOK.one (env := envL) envLok (fuel := 200) (dr := (.row 3 (.int .i64))) (vcs := []) ?_ (valids_nil) (by decide) Tryd.func56 Tryd.ntmps56 rfl (by kernel_rfl) build1u build1s build1z rfl rfl clos58
  kernel_rfl

end Go.Sx
