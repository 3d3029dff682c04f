/- Part TrnC of a proof: helper lemmas; no conditions. -/
import Derived.Test.YtiecagflhhmfnaaDoorTgW
import Derived.Test.YtiecagflhhmfnaaDoorL
import Derived.Test.YtiecagflhhmfnaaDoorTrnD
import Derived.Test.YtiecagflhhmfnaaDoorProg
import Derived.KernelRfl

set_option linter.unusedSimpArgs false
set_option linter.unusedVariables false

namespace Go.Sx
open Go Go.Proofs

theorem build1u : Tryd.prog.underlying 32 = some (.slice 39) := Tryd.underlying32
theorem build1s : sizeAt Tryd.prog 39 = some 1 := by kernel_rfl
theorem build1z : zeroAt Tryd.prog 39 = some .nilFunc := by kernel_rfl
-- { law := 10, apart := 101, own := 102, see := 103, calls := [104, 106, 109], ty := 164 }
def anns : List (Nat × Nat × LoopAnn) := [(211, 0, { ivs := [], facts := [(.le (.c (1)) (.v 3)), (.le (.v 3) (.c (8)))], meas := none, keep := [], peel := 0 })]
noncomputable def env0 : Env := { P := Tryd.prog, ann := anns }
theorem env0ok : ConOK env0 := fun _ _ h => nomatch h
noncomputable def con184 : Contract := conOf Tryd.prog 2000 2000 false ((Tryd.prog.funcs[184]?).getD default)
theorem fn184 : FnOK Tryd.prog 184 con184 := checkFn_ok (env := env0) env0ok (fuel := 200) (vcs := []) (by kernel_rfl)
    (valids_nil)
noncomputable def env184 : Env := { P := Tryd.prog, con := (184, con184) :: env0.con, inl := [], ann := anns }
theorem env184ok : ConOK env184 := ConOK.cons fn184 env0ok
-- no contract: 105 pointcode/transactions.Check 
noncomputable def env105 : Env := { P := Tryd.prog, con := env184.con, inl := [105], ann := anns }
theorem env105ok : ConOK env105 := fun g c h => env184ok g c h
noncomputable def con211 : Contract := conOf Tryd.prog 2000 8 false ((Tryd.prog.funcs[211]?).getD default)
theorem fn211 : FnOK Tryd.prog 211 con211 := checkFn_ok (env := env105) env105ok (fuel := 200) (vcs := [⟨[(.le (.c (1)) (.v 1)), (.le (.v 1) (.c (8))), (.lt (.v 1) (.c (8))), (.le (.c (1)) (.v 1)), (.le (.v 1) (.c (7)))], (.lt (.sub (.c (8)) (.add (.v 1) (.c (1)))) (.sub (.c (8)) (.v 1)))⟩,
    ⟨[(.le (.c (1)) (.v 1)), (.le (.v 1) (.c (8))), (.lt (.v 1) (.c (8))), (.le (.c (1)) (.v 1)), (.le (.v 1) (.c (7)))], (.le (.v 1) (.v 1))⟩,
    ⟨[(.le (.c (1)) (.v 1)), (.le (.v 1) (.c (8))), (.lt (.v 1) (.c (8))), (.lt (.v 4) (.v 1)), (.le (.c (1)) (.v 1)), (.le (.v 1) (.c (7))), (.le (.c (0)) (.v 4)), (.le (.v 4) (.c (6)))], (.le (.c (0)) (.sub (.add (.v 1) (.c (-1))) (.v 4)))⟩,
    ⟨[(.le (.c (1)) (.v 1)), (.le (.v 1) (.c (8))), (.lt (.v 1) (.c (8))), (.lt (.v 4) (.v 1)), (.le (.c (1)) (.v 1)), (.le (.v 1) (.c (7))), (.le (.c (0)) (.v 4)), (.le (.v 4) (.c (6)))], (.lt (.sub (.add (.v 1) (.c (-1))) (.v 4)) (.v 1))⟩,
    ⟨[(.le (.c (1)) (.v 1)), (.le (.v 1) (.c (8))), (.lt (.v 1) (.c (8))), (.lt (.v 4) (.v 1)), (.le (.c (1)) (.v 1)), (.le (.v 1) (.c (7))), (.le (.c (0)) (.v 4)), (.le (.v 4) (.c (6)))], (.le (.c (1)) (.sub (.v 1) (.v 4)))⟩,
    ⟨[(.le (.c (1)) (.v 1)), (.le (.v 1) (.c (8))), (.lt (.v 1) (.c (8))), (.lt (.v 4) (.v 1)), (.le (.c (1)) (.v 1)), (.le (.v 1) (.c (7))), (.le (.c (0)) (.v 4)), (.le (.v 4) (.c (6)))], (.lt (.sub (.v 1) (.add (.v 4) (.c (1)))) (.sub (.v 1) (.v 4)))⟩,
    ⟨[(.le (.c (1)) (.v 1)), (.le (.v 1) (.c (8))), (.lt (.v 1) (.c (8))), (.le (.c (1)) (.v 1)), (.le (.v 1) (.c (7)))], (.le (.v 1) (.v 1))⟩,
    ⟨[(.le (.c (1)) (.v 1)), (.le (.v 1) (.c (8))), (.lt (.v 1) (.c (8))), (.lt (.v 3) (.v 1)), (.le (.c (1)) (.v 1)), (.le (.v 1) (.c (7))), (.le (.c (0)) (.v 3)), (.le (.v 3) (.c (6)))], (.le (.c (0)) (.sub (.add (.v 1) (.c (-1))) (.v 3)))⟩,
    ⟨[(.le (.c (1)) (.v 1)), (.le (.v 1) (.c (8))), (.lt (.v 1) (.c (8))), (.lt (.v 3) (.v 1)), (.le (.c (1)) (.v 1)), (.le (.v 1) (.c (7))), (.le (.c (0)) (.v 3)), (.le (.v 3) (.c (6)))], (.lt (.sub (.add (.v 1) (.c (-1))) (.v 3)) (.v 1))⟩,
    ⟨[(.le (.c (1)) (.v 1)), (.le (.v 1) (.c (8))), (.lt (.v 1) (.c (8))), (.lt (.v 3) (.v 1)), (.le (.c (1)) (.v 1)), (.le (.v 1) (.c (7))), (.le (.c (0)) (.v 3)), (.le (.v 3) (.c (6)))], (.le (.c (1)) (.sub (.v 1) (.v 3)))⟩,
    ⟨[(.le (.c (1)) (.v 1)), (.le (.v 1) (.c (8))), (.lt (.v 1) (.c (8))), (.lt (.v 3) (.v 1)), (.le (.c (1)) (.v 1)), (.le (.v 1) (.c (7))), (.le (.c (0)) (.v 3)), (.le (.v 3) (.c (6)))], (.lt (.sub (.v 1) (.add (.v 3) (.c (1)))) (.sub (.v 1) (.v 3)))⟩,
    ⟨[(.le (.c (1)) (.v 1)), (.le (.v 1) (.c (8))), (.le (.c (8)) (.v 1)), (.lt (.v 2) (.v 1)), (.le (.c (8)) (.v 1)), (.le (.v 1) (.c (8))), (.le (.c (0)) (.v 2)), (.le (.v 2) (.c (7)))], (.lt (.sub (.v 1) (.add (.v 2) (.c (1)))) (.sub (.v 1) (.v 2)))⟩,
    ⟨[(.le (.c (1)) (.v 1)), (.le (.v 1) (.c (8))), (.lt (.v 1) (.c (8))), (.le (.v 1) (.v 4)), (.le (.c (1)) (.v 1)), (.le (.v 1) (.c (7))), (.le (.c (1)) (.v 4)), (.le (.v 4) (.c (9223372036854775807)))], (.le (.v 1) (.v 1))⟩,
    ⟨[(.le (.c (1)) (.v 1)), (.le (.v 1) (.c (8))), (.lt (.v 1) (.c (8))), (.le (.v 1) (.v 3)), (.le (.c (1)) (.v 1)), (.le (.v 1) (.c (7))), (.le (.c (1)) (.v 3)), (.le (.v 3) (.c (9223372036854775807)))], (.le (.v 1) (.v 1))⟩]) (by kernel_rfl)
    (valids_cons (by intro ρ h; first | (simp only [holdsAll, Fm.holds, T.ev] at h ⊢; omega) | (simp [holdsAll, Fm.holds, T.ev] at h ⊢; done) | (simp [holdsAll, Fm.holds, T.ev] at h ⊢; omega))
    (valids_cons (by intro ρ h; first | (simp only [holdsAll, Fm.holds, T.ev] at h ⊢; omega) | (simp [holdsAll, Fm.holds, T.ev] at h ⊢; done) | (simp [holdsAll, Fm.holds, T.ev] at h ⊢; omega))
    (valids_cons (by intro ρ h; first | (simp only [holdsAll, Fm.holds, T.ev] at h ⊢; omega) | (simp [holdsAll, Fm.holds, T.ev] at h ⊢; done) | (simp [holdsAll, Fm.holds, T.ev] at h ⊢; omega))
    (valids_cons (by intro ρ h; first | (simp only [holdsAll, Fm.holds, T.ev] at h ⊢; omega) | (simp [holdsAll, Fm.holds, T.ev] at h ⊢; done) | (simp [holdsAll, Fm.holds, T.ev] at h ⊢; omega))
    (valids_cons (by intro ρ h; first | (simp only [holdsAll, Fm.holds, T.ev] at h ⊢; omega) | (simp [holdsAll, Fm.holds, T.ev] at h ⊢; done) | (simp [holdsAll, Fm.holds, T.ev] at h ⊢; omega))
    (valids_cons (by intro ρ h; first | (simp only [holdsAll, Fm.holds, T.ev] at h ⊢; omega) | (simp [holdsAll, Fm.holds, T.ev] at h ⊢; done) | (simp [holdsAll, Fm.holds, T.ev] at h ⊢; omega))
    (valids_cons (by intro ρ h; first | (simp only [holdsAll, Fm.holds, T.ev] at h ⊢; omega) | (simp [holdsAll, Fm.holds, T.ev] at h ⊢; done) | (simp [holdsAll, Fm.holds, T.ev] at h ⊢; omega))
    (valids_cons (by intro ρ h; first | (simp only [holdsAll, Fm.holds, T.ev] at h ⊢; omega) | (simp [holdsAll, Fm.holds, T.ev] at h ⊢; done) | (simp [holdsAll, Fm.holds, T.ev] at h ⊢; omega))
    (valids_cons (by intro ρ h; first | (simp only [holdsAll, Fm.holds, T.ev] at h ⊢; omega) | (simp [holdsAll, Fm.holds, T.ev] at h ⊢; done) | (simp [holdsAll, Fm.holds, T.ev] at h ⊢; omega))
    (valids_cons (by intro ρ h; first | (simp only [holdsAll, Fm.holds, T.ev] at h ⊢; omega) | (simp [holdsAll, Fm.holds, T.ev] at h ⊢; done) | (simp [holdsAll, Fm.holds, T.ev] at h ⊢; omega))
    (valids_cons (by intro ρ h; first | (simp only [holdsAll, Fm.holds, T.ev] at h ⊢; omega) | (simp [holdsAll, Fm.holds, T.ev] at h ⊢; done) | (simp [holdsAll, Fm.holds, T.ev] at h ⊢; omega))
    (valids_cons (by intro ρ h; first | (simp only [holdsAll, Fm.holds, T.ev] at h ⊢; omega) | (simp [holdsAll, Fm.holds, T.ev] at h ⊢; done) | (simp [holdsAll, Fm.holds, T.ev] at h ⊢; omega))
    (valids_cons (by intro ρ h; first | (simp only [holdsAll, Fm.holds, T.ev] at h ⊢; omega) | (simp [holdsAll, Fm.holds, T.ev] at h ⊢; done) | (simp [holdsAll, Fm.holds, T.ev] at h ⊢; omega))
    (valids_cons (by intro ρ h; first | (simp only [holdsAll, Fm.holds, T.ev] at h ⊢; omega) | (simp [holdsAll, Fm.holds, T.ev] at h ⊢; done) | (simp [holdsAll, Fm.holds, T.ev] at h ⊢; omega))
    (valids_nil)))))))))))))))
noncomputable def env211 : Env := { P := Tryd.prog, con := (211, con211) :: env105.con, inl := [105], ann := anns }
theorem env211ok : ConOK env211 := ConOK.cons fn211 env105ok
noncomputable def con185 : Contract := conOf Tryd.prog 2000 2000 false ((Tryd.prog.funcs[185]?).getD default)
theorem fn185 : FnOK Tryd.prog 185 con185 := checkFn_ok (env := env211) env211ok (fuel := 200) (vcs := []) (by kernel_rfl)
    (valids_nil)
noncomputable def env185 : Env := { P := Tryd.prog, con := (185, con185) :: env211.con, inl := [105], ann := anns }
theorem env185ok : ConOK env185 := ConOK.cons fn185 env211ok
-- no contract: 228 pointcode/tags.measure 
-- no contract: 254 slices.IndexFunc[[]pointcode/tags.Tree,pointcode/tags.Tree] 
noncomputable def env254 : Env := { P := Tryd.prog, con := env185.con, inl := [254, 105], ann := anns }
theorem env254ok : ConOK env254 := fun g c h => env185ok g c h
-- no contract: 248 slices.ContainsFunc[[]pointcode/tags.Tree,pointcode/tags.Tree] 
noncomputable def env248 : Env := { P := Tryd.prog, con := env254.con, inl := [248, 254, 105], ann := anns }
theorem env248ok : ConOK env248 := fun g c h => env254ok g c h
-- no contract: 249 pointcode/tags.plain$1 
-- no contract: 229 pointcode/tags.plain 
-- no contract: 220 pointcode/tags.Check 
noncomputable def env220 : Env := { P := Tryd.prog, con := env248.con, inl := [220, 248, 254, 105], ann := anns }
theorem env220ok : ConOK env220 := fun g c h => env248ok g c h
-- no contract: 231 pointcode/tags.identifier 
noncomputable def env231 : Env := { P := Tryd.prog, con := env220.con, inl := [231, 220, 248, 254, 105], ann := anns }
theorem env231ok : ConOK env231 := fun g c h => env220ok g c h
-- no contract: 230 pointcode/tags.size 
noncomputable def env230 : Env := { P := Tryd.prog, con := env231.con, inl := [230, 231, 220, 248, 254, 105], ann := anns }
theorem env230ok : ConOK env230 := fun g c h => env231ok g c h
-- no contract: 221 pointcode/tags.long 
noncomputable def con136 : Contract := conOfX Tryd.prog 20000000000000 20000000000000 [0] [] [] [(.eq (.v 2) (.v 0))] ((Tryd.prog.funcs[136]?).getD default)
theorem fn136 : FnOK Tryd.prog 136 con136 := checkFn_ok (env := env230) env230ok (fuel := 200) (vcs := [⟨[(.le (.v 0) (.v 1)), (.le (.c (0)) (.v 0)), (.le (.v 0) (.c (20000000000000))), (.le (.c (0)) (.v 1)), (.le (.v 1) (.c (9223372036854775807)))], (.le (.v 0) (.v 0))⟩,
    ⟨[(.le (.v 0) (.v 1)), (.le (.c (0)) (.v 0)), (.le (.v 0) (.c (20000000000000))), (.le (.c (0)) (.v 1)), (.le (.v 1) (.c (9223372036854775807)))], (.le (.v 0) (.v 0))⟩]) (by kernel_rfl)
    (valids_cons (by intro ρ h; first | (simp only [holdsAll, Fm.holds, T.ev] at h ⊢; omega) | (simp [holdsAll, Fm.holds, T.ev] at h ⊢; done) | (simp [holdsAll, Fm.holds, T.ev] at h ⊢; omega))
    (valids_cons (by intro ρ h; first | (simp only [holdsAll, Fm.holds, T.ev] at h ⊢; omega) | (simp [holdsAll, Fm.holds, T.ev] at h ⊢; done) | (simp [holdsAll, Fm.holds, T.ev] at h ⊢; omega))
    (valids_nil)))
noncomputable def env136 : Env := { P := Tryd.prog, con := (136, con136) :: env230.con, inl := [230, 231, 220, 248, 254, 105], ann := anns }
theorem env136ok : ConOK env136 := ConOK.cons fn136 env230ok
-- no contract: 222 pointcode/tags.encode 
-- no contract: 212 pointcode/tags.EncodeAs 
noncomputable def env212 : Env := { P := Tryd.prog, con := env136.con, inl := [212, 230, 231, 220, 248, 254, 105], ann := anns }
theorem env212ok : ConOK env212 := fun g c h => env136ok g c h
-- no contract: 186 pointcode/tags.Encode 
noncomputable def env186 : Env := { P := Tryd.prog, con := env212.con, inl := [186, 212, 230, 231, 220, 248, 254, 105], ann := anns }
theorem env186ok : ConOK env186 := fun g c h => env212ok g c h
noncomputable def con107 : Contract := conOf Tryd.prog 2000 65536 false ((Tryd.prog.funcs[107]?).getD default)
set_option maxRecDepth 100000 in
theorem fn107 : FnOK Tryd.prog 107 con107 := hand107 fn211
noncomputable def env107 : Env := { P := Tryd.prog, con := (107, con107) :: env186.con, inl := [186, 212, 230, 231, 220, 248, 254, 105], ann := anns }
theorem env107ok : ConOK env107 := ConOK.cons fn107 env186ok
-- no contract: 223 pointcode/tags.First$1 
noncomputable def env223 : Env := { P := Tryd.prog, con := env107.con, inl := [223, 186, 212, 230, 231, 220, 248, 254, 105], ann := anns }
theorem env223ok : ConOK env223 := fun g c h => env107ok g c h
-- no contract: 232 pointcode/tags.must conditions fail
noncomputable def env232 : Env := { P := Tryd.prog, con := env223.con, inl := [232, 223, 186, 212, 230, 231, 220, 248, 254, 105], ann := anns }
theorem env232ok : ConOK env232 := fun g c h => env223ok g c h
-- no contract: 237 (*pointcode/tags.input).take conditions fail
noncomputable def env237 : Env := { P := Tryd.prog, con := env232.con, inl := [237, 232, 223, 186, 212, 230, 231, 220, 248, 254, 105], ann := anns }
theorem env237ok : ConOK env237 := fun g c h => env232ok g c h
-- no contract: 233 (*pointcode/tags.input).next conditions fail
noncomputable def env233 : Env := { P := Tryd.prog, con := env237.con, inl := [233, 237, 232, 223, 186, 212, 230, 231, 220, 248, 254, 105], ann := anns }
theorem env233ok : ConOK env233 := fun g c h => env237ok g c h
-- no contract: 234 (*pointcode/tags.decoder).number 
noncomputable def env234 : Env := { P := Tryd.prog, con := env233.con, inl := [234, 233, 237, 232, 223, 186, 212, 230, 231, 220, 248, 254, 105], ann := anns }
theorem env234ok : ConOK env234 := fun g c h => env233ok g c h
-- no contract: 235 (*pointcode/tags.decoder).length conditions fail
noncomputable def env235 : Env := { P := Tryd.prog, con := env234.con, inl := [235, 234, 233, 237, 232, 223, 186, 212, 230, 231, 220, 248, 254, 105], ann := anns }
theorem env235ok : ConOK env235 := fun g c h => env234ok g c h
-- no contract: 236 (*pointcode/tags.decoder).ahead conditions fail
noncomputable def env236 : Env := { P := Tryd.prog, con := env235.con, inl := [236, 235, 234, 233, 237, 232, 223, 186, 212, 230, 231, 220, 248, 254, 105], ann := anns }
theorem env236ok : ConOK env236 := fun g c h => env235ok g c h
noncomputable def con137 : Contract := conOfX Tryd.prog 1000000 1000000 [] [] [] [(.eq (.v 2) (.v 0))] ((Tryd.prog.funcs[137]?).getD default)
theorem fn137 : FnOK Tryd.prog 137 con137 := checkFn_ok (env := env236) env236ok (fuel := 200) (vcs := [⟨[(.le (.v 0) (.v 1)), (.or (.eq (.v 2) (.c (0))) (.eq (.v 0) (.c (0)))), (.eq (.v 2) (.c (1))), (.le (.c (0)) (.v 0)), (.le (.v 0) (.c (1000000))), (.le (.c (0)) (.v 1)), (.le (.v 1) (.c (9223372036854775807))), (.le (.c (1)) (.v 2)), (.le (.v 2) (.c (1)))], (.eq (.c (0)) (.v 0))⟩]) (by kernel_rfl)
    (valids_cons (by intro ρ h; first | (simp only [holdsAll, Fm.holds, T.ev] at h ⊢; omega) | (simp [holdsAll, Fm.holds, T.ev] at h ⊢; done) | (simp [holdsAll, Fm.holds, T.ev] at h ⊢; omega))
    (valids_nil))
noncomputable def env137 : Env := { P := Tryd.prog, con := (137, con137) :: env236.con, inl := [236, 235, 234, 233, 237, 232, 223, 186, 212, 230, 231, 220, 248, 254, 105], ann := anns }
theorem env137ok : ConOK env137 := ConOK.cons fn137 env236ok
noncomputable def con238 : Contract := conOfX Tryd.prog 20000000000000 20000000000000 [0] [] [] [(.eq (.v 2) (.v 0))] ((Tryd.prog.funcs[238]?).getD default)
theorem fn238 : FnOK Tryd.prog 238 con238 := checkFn_ok (env := env137) env137ok (fuel := 200) (vcs := [⟨[(.le (.v 0) (.v 1)), (.le (.c (0)) (.v 0)), (.le (.v 0) (.c (20000000000000))), (.le (.c (0)) (.v 1)), (.le (.v 1) (.c (9223372036854775807)))], (.le (.v 0) (.v 0))⟩,
    ⟨[(.le (.v 0) (.v 1)), (.le (.c (0)) (.v 0)), (.le (.v 0) (.c (20000000000000))), (.le (.c (0)) (.v 1)), (.le (.v 1) (.c (9223372036854775807)))], (.le (.v 0) (.v 0))⟩]) (by kernel_rfl)
    (valids_cons (by intro ρ h; first | (simp only [holdsAll, Fm.holds, T.ev] at h ⊢; omega) | (simp [holdsAll, Fm.holds, T.ev] at h ⊢; done) | (simp [holdsAll, Fm.holds, T.ev] at h ⊢; omega))
    (valids_cons (by intro ρ h; first | (simp only [holdsAll, Fm.holds, T.ev] at h ⊢; omega) | (simp [holdsAll, Fm.holds, T.ev] at h ⊢; done) | (simp [holdsAll, Fm.holds, T.ev] at h ⊢; omega))
    (valids_nil)))
noncomputable def env238 : Env := { P := Tryd.prog, con := (238, con238) :: env137.con, inl := [236, 235, 234, 233, 237, 232, 223, 186, 212, 230, 231, 220, 248, 254, 105], ann := anns }
theorem env238ok : ConOK env238 := ConOK.cons fn238 env137ok
-- no contract: 224 (*pointcode/tags.decoder).element 
-- no contract: 213 pointcode/tags.First 
noncomputable def env213 : Env := { P := Tryd.prog, con := env238.con, inl := [213, 236, 235, 234, 233, 237, 232, 223, 186, 212, 230, 231, 220, 248, 254, 105], ann := anns }
theorem env213ok : ConOK env213 := fun g c h => env238ok g c h
noncomputable def con187 : Contract := conOf Tryd.prog 1099511627776 1099511627776 false ((Tryd.prog.funcs[187]?).getD default)
set_option maxRecDepth 100000 in
theorem fn187 : FnOK Tryd.prog 187 con187 := hand187
noncomputable def env187 : Env := { P := Tryd.prog, con := (187, con187) :: env213.con, inl := [213, 236, 235, 234, 233, 237, 232, 223, 186, 212, 230, 231, 220, 248, 254, 105], ann := anns }
theorem env187ok : ConOK env187 := ConOK.cons fn187 env213ok
noncomputable def con214 : Contract := conOf Tryd.prog 1099511627776 1099511627776 false ((Tryd.prog.funcs[214]?).getD default)
theorem fn214 : FnOK Tryd.prog 214 con214 := checkFn_ok (env := env187) env187ok (fuel := 200) (vcs := [⟨[(.le (.v 0) (.v 1)), (.ne (.v 0) (.c (0))), (.lt (.c (1)) (.v 0)), (.le (.v 0) (.c (8))), (.lt (.v 8) (.add (.v 0) (.c (-1)))), (.le (.c (2)) (.v 0)), (.le (.v 0) (.c (8))), (.le (.c (0)) (.v 1)), (.le (.v 1) (.c (9223372036854775807))), (.le (.c (0)) (.v 8)), (.le (.v 8) (.c (6)))], (.le (.c (1)) (.sub (.add (.v 0) (.c (-1))) (.v 8)))⟩,
    ⟨[(.le (.v 0) (.v 1)), (.ne (.v 0) (.c (0))), (.lt (.c (1)) (.v 0)), (.le (.v 0) (.c (8))), (.lt (.v 8) (.add (.v 0) (.c (-1)))), (.le (.c (2)) (.v 0)), (.le (.v 0) (.c (8))), (.le (.c (0)) (.v 1)), (.le (.v 1) (.c (9223372036854775807))), (.le (.c (0)) (.v 8)), (.le (.v 8) (.c (6)))], (.lt (.sub (.add (.v 0) (.c (-1))) (.add (.v 8) (.c (1)))) (.sub (.add (.v 0) (.c (-1))) (.v 8)))⟩,
    ⟨[(.le (.v 0) (.v 1)), (.ne (.v 0) (.c (0))), (.lt (.c (1)) (.v 0)), (.le (.v 0) (.c (8))), (.lt (.v 7) (.add (.v 0) (.c (-1)))), (.le (.c (2)) (.v 0)), (.le (.v 0) (.c (8))), (.le (.c (0)) (.v 1)), (.le (.v 1) (.c (9223372036854775807))), (.le (.c (0)) (.v 7)), (.le (.v 7) (.c (6)))], (.le (.c (1)) (.sub (.add (.v 0) (.c (-1))) (.v 7)))⟩,
    ⟨[(.le (.v 0) (.v 1)), (.ne (.v 0) (.c (0))), (.lt (.c (1)) (.v 0)), (.le (.v 0) (.c (8))), (.lt (.v 7) (.add (.v 0) (.c (-1)))), (.le (.c (2)) (.v 0)), (.le (.v 0) (.c (8))), (.le (.c (0)) (.v 1)), (.le (.v 1) (.c (9223372036854775807))), (.le (.c (0)) (.v 7)), (.le (.v 7) (.c (6)))], (.lt (.sub (.add (.v 0) (.c (-1))) (.add (.v 7) (.c (1)))) (.sub (.add (.v 0) (.c (-1))) (.v 7)))⟩,
    ⟨[(.le (.v 0) (.v 1)), (.ne (.v 0) (.c (0))), (.lt (.c (1)) (.v 0)), (.le (.v 0) (.c (8))), (.lt (.v 7) (.add (.v 0) (.c (-1)))), (.le (.c (2)) (.v 0)), (.le (.v 0) (.c (8))), (.le (.c (0)) (.v 1)), (.le (.v 1) (.c (9223372036854775807))), (.le (.c (0)) (.v 7)), (.le (.v 7) (.c (6)))], (.le (.c (1)) (.sub (.add (.v 0) (.c (-1))) (.v 7)))⟩,
    ⟨[(.le (.v 0) (.v 1)), (.ne (.v 0) (.c (0))), (.lt (.c (1)) (.v 0)), (.le (.v 0) (.c (8))), (.lt (.v 7) (.add (.v 0) (.c (-1)))), (.le (.c (2)) (.v 0)), (.le (.v 0) (.c (8))), (.le (.c (0)) (.v 1)), (.le (.v 1) (.c (9223372036854775807))), (.le (.c (0)) (.v 7)), (.le (.v 7) (.c (6)))], (.lt (.sub (.add (.v 0) (.c (-1))) (.add (.v 7) (.c (1)))) (.sub (.add (.v 0) (.c (-1))) (.v 7)))⟩,
    ⟨[(.le (.v 0) (.v 1)), (.ne (.v 0) (.c (0))), (.lt (.c (1)) (.v 0)), (.le (.v 0) (.c (8))), (.lt (.v 6) (.add (.v 0) (.c (-1)))), (.le (.c (2)) (.v 0)), (.le (.v 0) (.c (8))), (.le (.c (0)) (.v 1)), (.le (.v 1) (.c (9223372036854775807))), (.le (.c (0)) (.v 6)), (.le (.v 6) (.c (6)))], (.le (.c (1)) (.sub (.add (.v 0) (.c (-1))) (.v 6)))⟩,
    ⟨[(.le (.v 0) (.v 1)), (.ne (.v 0) (.c (0))), (.lt (.c (1)) (.v 0)), (.le (.v 0) (.c (8))), (.lt (.v 6) (.add (.v 0) (.c (-1)))), (.le (.c (2)) (.v 0)), (.le (.v 0) (.c (8))), (.le (.c (0)) (.v 1)), (.le (.v 1) (.c (9223372036854775807))), (.le (.c (0)) (.v 6)), (.le (.v 6) (.c (6)))], (.lt (.sub (.add (.v 0) (.c (-1))) (.add (.v 6) (.c (1)))) (.sub (.add (.v 0) (.c (-1))) (.v 6)))⟩,
    ⟨[(.le (.v 0) (.v 1)), (.ne (.v 0) (.c (0))), (.le (.v 0) (.c (1))), (.le (.c (0)) (.v 0)), (.le (.v 0) (.c (1))), (.le (.c (0)) (.v 1)), (.le (.v 1) (.c (9223372036854775807)))], (.lt (.c (0)) (.v 0))⟩,
    ⟨[(.le (.v 0) (.v 1)), (.ne (.v 0) (.c (0))), (.le (.v 0) (.c (1))), (.le (.c (0)) (.v 0)), (.le (.v 0) (.c (1))), (.le (.c (0)) (.v 1)), (.le (.v 1) (.c (9223372036854775807)))], (.le (.c (1)) (.v 0))⟩]) (by kernel_rfl)
    (valids_cons (by intro ρ h; first | (simp only [holdsAll, Fm.holds, T.ev] at h ⊢; omega) | (simp [holdsAll, Fm.holds, T.ev] at h ⊢; done) | (simp [holdsAll, Fm.holds, T.ev] at h ⊢; omega))
    (valids_cons (by intro ρ h; first | (simp only [holdsAll, Fm.holds, T.ev] at h ⊢; omega) | (simp [holdsAll, Fm.holds, T.ev] at h ⊢; done) | (simp [holdsAll, Fm.holds, T.ev] at h ⊢; omega))
    (valids_cons (by intro ρ h; first | (simp only [holdsAll, Fm.holds, T.ev] at h ⊢; omega) | (simp [holdsAll, Fm.holds, T.ev] at h ⊢; done) | (simp [holdsAll, Fm.holds, T.ev] at h ⊢; omega))
    (valids_cons (by intro ρ h; first | (simp only [holdsAll, Fm.holds, T.ev] at h ⊢; omega) | (simp [holdsAll, Fm.holds, T.ev] at h ⊢; done) | (simp [holdsAll, Fm.holds, T.ev] at h ⊢; omega))
    (valids_cons (by intro ρ h; first | (simp only [holdsAll, Fm.holds, T.ev] at h ⊢; omega) | (simp [holdsAll, Fm.holds, T.ev] at h ⊢; done) | (simp [holdsAll, Fm.holds, T.ev] at h ⊢; omega))
    (valids_cons (by intro ρ h; first | (simp only [holdsAll, Fm.holds, T.ev] at h ⊢; omega) | (simp [holdsAll, Fm.holds, T.ev] at h ⊢; done) | (simp [holdsAll, Fm.holds, T.ev] at h ⊢; omega))
    (valids_cons (by intro ρ h; first | (simp only [holdsAll, Fm.holds, T.ev] at h ⊢; omega) | (simp [holdsAll, Fm.holds, T.ev] at h ⊢; done) | (simp [holdsAll, Fm.holds, T.ev] at h ⊢; omega))
    (valids_cons (by intro ρ h; first | (simp only [holdsAll, Fm.holds, T.ev] at h ⊢; omega) | (simp [holdsAll, Fm.holds, T.ev] at h ⊢; done) | (simp [holdsAll, Fm.holds, T.ev] at h ⊢; omega))
    (valids_cons (by intro ρ h; first | (simp only [holdsAll, Fm.holds, T.ev] at h ⊢; omega) | (simp [holdsAll, Fm.holds, T.ev] at h ⊢; done) | (simp [holdsAll, Fm.holds, T.ev] at h ⊢; omega))
    (valids_cons (by intro ρ h; first | (simp only [holdsAll, Fm.holds, T.ev] at h ⊢; omega) | (simp [holdsAll, Fm.holds, T.ev] at h ⊢; done) | (simp [holdsAll, Fm.holds, T.ev] at h ⊢; omega))
    (valids_nil)))))))))))
noncomputable def env214 : Env := { P := Tryd.prog, con := (214, con214) :: env187.con, inl := [213, 236, 235, 234, 233, 237, 232, 223, 186, 212, 230, 231, 220, 248, 254, 105], ann := anns }
theorem env214ok : ConOK env214 := ConOK.cons fn214 env187ok
noncomputable def con188 : Contract := conOf Tryd.prog 1099511627776 1099511627776 true ((Tryd.prog.funcs[188]?).getD default)
theorem fn188 : FnOK Tryd.prog 188 con188 := checkFn_ok (env := env214) env214ok (fuel := 200) (vcs := [⟨[(.le (.v 0) (.v 1)), (.ne (.v 0) (.c (0))), (.le (.c (0)) (.v 0)), (.le (.v 0) (.c (1099511627776))), (.le (.c (0)) (.v 1)), (.le (.v 1) (.c (9223372036854775807)))], (.lt (.c (0)) (.v 0))⟩,
    ⟨[(.le (.v 0) (.v 1)), (.ne (.v 0) (.c (0))), (.le (.c (0)) (.v 0)), (.le (.v 0) (.c (1099511627776))), (.le (.c (0)) (.v 1)), (.le (.v 1) (.c (9223372036854775807)))], (.lt (.c (0)) (.v 0))⟩,
    ⟨[(.le (.v 0) (.v 1)), (.ne (.v 0) (.c (0))), (.le (.c (0)) (.v 0)), (.le (.v 0) (.c (1099511627776))), (.le (.c (0)) (.v 1)), (.le (.v 1) (.c (9223372036854775807)))], (.lt (.c (0)) (.v 0))⟩,
    ⟨[(.le (.v 0) (.v 1)), (.ne (.v 0) (.c (0))), (.le (.c (0)) (.v 0)), (.le (.v 0) (.c (1099511627776))), (.le (.c (0)) (.v 1)), (.le (.v 1) (.c (9223372036854775807)))], (.lt (.c (0)) (.v 0))⟩,
    ⟨[(.le (.v 0) (.v 1)), (.ne (.v 0) (.c (0))), (.le (.c (0)) (.v 0)), (.le (.v 0) (.c (1099511627776))), (.le (.c (0)) (.v 1)), (.le (.v 1) (.c (9223372036854775807)))], (.le (.c (1)) (.v 0))⟩,
    ⟨[(.le (.v 0) (.v 1)), (.ne (.v 0) (.c (0))), (.le (.c (0)) (.v 0)), (.le (.v 0) (.c (1099511627776))), (.le (.c (0)) (.v 1)), (.le (.v 1) (.c (9223372036854775807)))], (.le (.c (0)) (.add (.v 0) (.c (-1))))⟩,
    ⟨[(.le (.v 0) (.v 1)), (.ne (.v 0) (.c (0))), (.le (.c (0)) (.v 0)), (.le (.v 0) (.c (1099511627776))), (.le (.c (0)) (.v 1)), (.le (.v 1) (.c (9223372036854775807)))], (.le (.c (0)) (.add (.v 1) (.c (-1))))⟩,
    ⟨[(.le (.v 0) (.v 1)), (.ne (.v 0) (.c (0))), (.le (.c (0)) (.v 0)), (.le (.v 0) (.c (1099511627776))), (.le (.c (0)) (.v 1)), (.le (.v 1) (.c (9223372036854775807)))], (.le (.add (.v 0) (.c (-1))) (.add (.v 1) (.c (-1))))⟩]) (by kernel_rfl)
    (valids_cons (by intro ρ h; first | (simp only [holdsAll, Fm.holds, T.ev] at h ⊢; omega) | (simp [holdsAll, Fm.holds, T.ev] at h ⊢; done) | (simp [holdsAll, Fm.holds, T.ev] at h ⊢; omega))
    (valids_cons (by intro ρ h; first | (simp only [holdsAll, Fm.holds, T.ev] at h ⊢; omega) | (simp [holdsAll, Fm.holds, T.ev] at h ⊢; done) | (simp [holdsAll, Fm.holds, T.ev] at h ⊢; omega))
    (valids_cons (by intro ρ h; first | (simp only [holdsAll, Fm.holds, T.ev] at h ⊢; omega) | (simp [holdsAll, Fm.holds, T.ev] at h ⊢; done) | (simp [holdsAll, Fm.holds, T.ev] at h ⊢; omega))
    (valids_cons (by intro ρ h; first | (simp only [holdsAll, Fm.holds, T.ev] at h ⊢; omega) | (simp [holdsAll, Fm.holds, T.ev] at h ⊢; done) | (simp [holdsAll, Fm.holds, T.ev] at h ⊢; omega))
    (valids_cons (by intro ρ h; first | (simp only [holdsAll, Fm.holds, T.ev] at h ⊢; omega) | (simp [holdsAll, Fm.holds, T.ev] at h ⊢; done) | (simp [holdsAll, Fm.holds, T.ev] at h ⊢; omega))
    (valids_cons (by intro ρ h; first | (simp only [holdsAll, Fm.holds, T.ev] at h ⊢; omega) | (simp [holdsAll, Fm.holds, T.ev] at h ⊢; done) | (simp [holdsAll, Fm.holds, T.ev] at h ⊢; omega))
    (valids_cons (by intro ρ h; first | (simp only [holdsAll, Fm.holds, T.ev] at h ⊢; omega) | (simp [holdsAll, Fm.holds, T.ev] at h ⊢; done) | (simp [holdsAll, Fm.holds, T.ev] at h ⊢; omega))
    (valids_cons (by intro ρ h; first | (simp only [holdsAll, Fm.holds, T.ev] at h ⊢; omega) | (simp [holdsAll, Fm.holds, T.ev] at h ⊢; done) | (simp [holdsAll, Fm.holds, T.ev] at h ⊢; omega))
    (valids_nil)))))))))
noncomputable def env188 : Env := { P := Tryd.prog, con := (188, con188) :: env214.con, inl := [213, 236, 235, 234, 233, 237, 232, 223, 186, 212, 230, 231, 220, 248, 254, 105], ann := anns }
theorem env188ok : ConOK env188 := ConOK.cons fn188 env214ok
noncomputable def con181 : Contract := conOfX Tryd.prog 1099511627776 1099511627776 [] [] [] [(.eq (.v 2) (.v 0))] ((Tryd.prog.funcs[181]?).getD default)
theorem fn181 : FnOK Tryd.prog 181 con181 := checkFn_ok (env := env188) env188ok (fuel := 200) (vcs := [⟨[(.le (.v 0) (.v 1)), (.or (.eq (.v 2) (.c (0))) (.eq (.v 0) (.c (0)))), (.eq (.v 2) (.c (1))), (.le (.c (0)) (.v 0)), (.le (.v 0) (.c (1099511627776))), (.le (.c (0)) (.v 1)), (.le (.v 1) (.c (9223372036854775807))), (.le (.c (1)) (.v 2)), (.le (.v 2) (.c (1)))], (.eq (.c (0)) (.v 0))⟩]) (by kernel_rfl)
    (valids_cons (by intro ρ h; first | (simp only [holdsAll, Fm.holds, T.ev] at h ⊢; omega) | (simp [holdsAll, Fm.holds, T.ev] at h ⊢; done) | (simp [holdsAll, Fm.holds, T.ev] at h ⊢; omega))
    (valids_nil))
noncomputable def env181 : Env := { P := Tryd.prog, con := (181, con181) :: env188.con, inl := [213, 236, 235, 234, 233, 237, 232, 223, 186, 212, 230, 231, 220, 248, 254, 105], ann := anns }
theorem env181ok : ConOK env181 := ConOK.cons fn181 env188ok
noncomputable def con110 : Contract := conOf Tryd.prog 2000 4000 false ((Tryd.prog.funcs[110]?).getD default)
theorem fn110 : FnOK Tryd.prog 110 con110 := checkFn_ok (env := env181) env181ok (fuel := 200) (vcs := []) (by kernel_rfl)
    (valids_nil)
noncomputable def env110 : Env := { P := Tryd.prog, con := (110, con110) :: env181.con, inl := [213, 236, 235, 234, 233, 237, 232, 223, 186, 212, 230, 231, 220, 248, 254, 105], ann := anns }
theorem env110ok : ConOK env110 := ConOK.cons fn110 env181ok
noncomputable def envL : Env := { P := Tryd.prog, con := env110.con, inl := [213, 236, 235, 234, 233, 237, 232, 223, 186, 212, 230, 231, 220, 248, 254, 105], ann := anns, wa := true }
theorem envLok : ConOK envL := fun g c h => env110ok g c h
theorem call104 : CallOK Tryd.prog 3 9 2000 104 (.seq (.seq (.int .u8) (.seq (.int .u32) (.seq (.int .u32) (.seq (.int .u8) (.row 5 (.int .u8)))))) (.row 5 (.int .u8))) glL := by
  refine CallOK.nil (env := envL) envLok (fuel := 200) (vcs := []) ?_ (valids_nil) (by decide) Tryd.func104 Tryd.ntmps104 rfl (by kernel_rfl) rfl
  kernel_rfl
theorem call106 : CallOK Tryd.prog 3 9 2000 106 (.seq (.seq (.int .u8) (.seq (.int .u32) (.seq (.int .u32) (.seq (.int .u8) (.row 5 (.int .u8)))))) (.row 5 (.int .u8))) glL := by
  refine CallOK.one (env := envL) envLok (fuel := 200) (dr := (.row 5 (.int .u8))) (vcs := []) ?_ (valids_nil) (by decide) Tryd.func106 Tryd.ntmps106 rfl (by kernel_rfl) build1u build1s build1z rfl rfl clos108
  kernel_rfl
theorem call109 : CallOK Tryd.prog 3 9 2000 109 (.seq (.seq (.int .u8) (.seq (.int .u32) (.seq (.int .u32) (.seq (.int .u8) (.row 5 (.int .u8)))))) (.row 5 (.int .u8))) glL := by
  refine CallOK.one (env := envL) envLok (fuel := 200) (dr := (.seq (.int .u8) (.seq (.int .u32) (.seq (.int .u32) (.seq (.int .u8) (.row 5 (.int .u8))))))) (vcs := []) ?_ (valids_nil) (by decide) Tryd.func109 Tryd.ntmps109 rfl (by kernel_rfl) build1u build1s build1z rfl rfl clos111
  kernel_rfl

end Go.Sx
