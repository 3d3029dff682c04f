/- Part UpdC of a proof: helper lemmas; no conditions. -/
import Derived.Test.YtadhlkgjiccdpaaGreatDoorUpA
import Derived.Test.YtadhlkgjiccdpaaGreatDoorL
import Derived.Test.YtadhlkgjiccdpaaGreatDoorUpdD
import Derived.Test.YtadhlkgjiccdpaaGreatDoorProg
import Derived.KernelRfl

set_option linter.unusedSimpArgs false
set_option linter.unusedVariables false

namespace Go.Sx
open Go Go.Proofs

theorem build1u : Tryz.prog.underlying 35 = some (.slice 42) := Tryz.underlying35
theorem build1s : sizeAt Tryz.prog 42 = some 1 := by kernel_rfl
theorem build1z : zeroAt Tryz.prog 42 = some .nilFunc := by kernel_rfl
-- { law := 3, apart := 6, own := 7, see := 8, calls := [9, 13, 15, 19], ty := 30 }
def anns : List (Nat × Nat × LoopAnn) := [(73, 0, { ivs := [], facts := [(.le (.c (1)) (.v 3)), (.le (.v 3) (.c (8)))], meas := none, keep := [], peel := 0 }),
  (10, 0, { ivs := [], facts := [(.le (.v 3004) (.v 27)), (.le (.v 27) (.c (3)))], meas := none, keep := [], peel := 0 }),
  (10, 2, { ivs := [], facts := [(.le (.v 3004) (.add (.c (3)) (.v 56))), (.le (.v 56) (.c (3)))], meas := none, keep := [], peel := 0 })]
noncomputable def env0 : Env := { P := Tryz.prog, ann := anns }
theorem env0ok : ConOK env0 := fun _ _ h => nomatch h
noncomputable def con190 : Contract := conOf Tryz.prog 2000 1099511627776 false ((Tryz.prog.funcs[190]?).getD default)
theorem fn190 : FnOK Tryz.prog 190 con190 := checkFn_ok (env := env0) env0ok (fuel := 200) (vcs := [⟨[(.lt (.c (0)) (.v 2)), (.le (.c (1)) (.v 2)), (.le (.v 2) (.c (1099511627776)))], (.lt (.add (.v 2) (.c (-1))) (.v 2))⟩,
    ⟨[(.lt (.c (0)) (.v 2)), (.le (.c (1)) (.v 2)), (.le (.v 2) (.c (1099511627776)))], (.le (.add (.v 2) (.c (-1))) (.v 2))⟩,
    ⟨[(.lt (.c (0)) (.v 2)), (.le (.c (1)) (.v 2)), (.le (.v 2) (.c (1099511627776)))], (.lt (.add (.v 2) (.c (-1))) (.v 2))⟩]) (by kernel_rfl)
    (valids_cons (by intro ρ h; first | (simp only [holdsAll, Fm.holds, T.ev] at h ⊢; omega) | (simp [holdsAll, Fm.holds, T.ev] at h ⊢; done) | (simp [holdsAll, Fm.holds, T.ev] at h ⊢; omega))
    (valids_cons (by intro ρ h; first | (simp only [holdsAll, Fm.holds, T.ev] at h ⊢; omega) | (simp [holdsAll, Fm.holds, T.ev] at h ⊢; done) | (simp [holdsAll, Fm.holds, T.ev] at h ⊢; omega))
    (valids_cons (by intro ρ h; first | (simp only [holdsAll, Fm.holds, T.ev] at h ⊢; omega) | (simp [holdsAll, Fm.holds, T.ev] at h ⊢; done) | (simp [holdsAll, Fm.holds, T.ev] at h ⊢; omega))
    (valids_nil))))
noncomputable def env190 : Env := { P := Tryz.prog, con := (190, con190) :: env0.con, inl := [], ann := anns }
theorem env190ok : ConOK env190 := ConOK.cons fn190 env0ok
noncomputable def con189 : Contract := conOf Tryz.prog 2000 1099511627776 false ((Tryz.prog.funcs[189]?).getD default)
theorem fn189 : FnOK Tryz.prog 189 con189 := checkFn_ok (env := env190) env190ok (fuel := 200) (vcs := [⟨[(.lt (.c (0)) (.v 2)), (.le (.c (1)) (.v 2)), (.le (.v 2) (.c (1099511627776)))], (.lt (.add (.v 2) (.c (-1))) (.v 2))⟩]) (by kernel_rfl)
    (valids_cons (by intro ρ h; first | (simp only [holdsAll, Fm.holds, T.ev] at h ⊢; omega) | (simp [holdsAll, Fm.holds, T.ev] at h ⊢; done) | (simp [holdsAll, Fm.holds, T.ev] at h ⊢; omega))
    (valids_nil))
noncomputable def env189 : Env := { P := Tryz.prog, con := (189, con189) :: env190.con, inl := [], ann := anns }
theorem env189ok : ConOK env189 := ConOK.cons fn189 env190ok
-- no contract: 191 strings.makeASCIISet 
noncomputable def env191 : Env := { P := Tryz.prog, con := env189.con, inl := [191], ann := anns }
theorem env191ok : ConOK env191 := fun g c h => env189ok g c h
noncomputable def con209 : Contract := conOf Tryz.prog 2000 2000 false ((Tryz.prog.funcs[209]?).getD default)
theorem fn209 : FnOK Tryz.prog 209 con209 := checkFn_ok (env := env191) env191ok (fuel := 200) (vcs := []) (by kernel_rfl)
    (valids_nil)
noncomputable def env209 : Env := { P := Tryz.prog, con := (209, con209) :: env191.con, inl := [191], ann := anns }
theorem env209ok : ConOK env209 := ConOK.cons fn209 env191ok
noncomputable def con193 : Contract := conOf Tryz.prog 2000 1099511627776 false ((Tryz.prog.funcs[193]?).getD default)
theorem fn193 : FnOK Tryz.prog 193 con193 := checkFn_ok (env := env209) env209ok (fuel := 200) (vcs := [⟨[(.lt (.c (0)) (.v 1)), (.le (.c (1)) (.v 1)), (.le (.v 1) (.c (1099511627776)))], (.lt (.add (.v 1) (.c (-1))) (.v 1))⟩,
    ⟨[(.lt (.c (0)) (.v 1)), (.le (.c (1)) (.v 1)), (.le (.v 1) (.c (1099511627776)))], (.le (.add (.v 1) (.c (-1))) (.v 1))⟩,
    ⟨[(.lt (.c (0)) (.v 1)), (.le (.c (1)) (.v 1)), (.le (.v 1) (.c (1099511627776)))], (.lt (.add (.v 1) (.c (-1))) (.v 1))⟩]) (by kernel_rfl)
    (valids_cons (by intro ρ h; first | (simp only [holdsAll, Fm.holds, T.ev] at h ⊢; omega) | (simp [holdsAll, Fm.holds, T.ev] at h ⊢; done) | (simp [holdsAll, Fm.holds, T.ev] at h ⊢; omega))
    (valids_cons (by intro ρ h; first | (simp only [holdsAll, Fm.holds, T.ev] at h ⊢; omega) | (simp [holdsAll, Fm.holds, T.ev] at h ⊢; done) | (simp [holdsAll, Fm.holds, T.ev] at h ⊢; omega))
    (valids_cons (by intro ρ h; first | (simp only [holdsAll, Fm.holds, T.ev] at h ⊢; omega) | (simp [holdsAll, Fm.holds, T.ev] at h ⊢; done) | (simp [holdsAll, Fm.holds, T.ev] at h ⊢; omega))
    (valids_nil))))
noncomputable def env193 : Env := { P := Tryz.prog, con := (193, con193) :: env209.con, inl := [191], ann := anns }
theorem env193ok : ConOK env193 := ConOK.cons fn193 env209ok
noncomputable def con192 : Contract := conOf Tryz.prog 2000 1099511627776 false ((Tryz.prog.funcs[192]?).getD default)
theorem fn192 : FnOK Tryz.prog 192 con192 := checkFn_ok (env := env193) env193ok (fuel := 200) (vcs := [⟨[(.lt (.c (0)) (.v 1)), (.le (.c (1)) (.v 1)), (.le (.v 1) (.c (1099511627776)))], (.lt (.add (.v 1) (.c (-1))) (.v 1))⟩]) (by kernel_rfl)
    (valids_cons (by intro ρ h; first | (simp only [holdsAll, Fm.holds, T.ev] at h ⊢; omega) | (simp [holdsAll, Fm.holds, T.ev] at h ⊢; done) | (simp [holdsAll, Fm.holds, T.ev] at h ⊢; omega))
    (valids_nil))
noncomputable def env192 : Env := { P := Tryz.prog, con := (192, con192) :: env193.con, inl := [191], ann := anns }
theorem env192ok : ConOK env192 := ConOK.cons fn192 env193ok
noncomputable def con226 : Contract := conOf Tryz.prog 2000 2000 false ((Tryz.prog.funcs[226]?).getD default)
theorem fn226 : FnOK Tryz.prog 226 con226 := checkFn_ok (env := env192) env192ok (fuel := 200) (vcs := []) (by kernel_rfl)
    (valids_nil)
noncomputable def env226 : Env := { P := Tryz.prog, con := (226, con226) :: env192.con, inl := [191], ann := anns }
theorem env226ok : ConOK env226 := ConOK.cons fn226 env192ok
-- no contract: 224 unicode/utf8.decodeRuneInStringSlow 
noncomputable def env224 : Env := { P := Tryz.prog, con := env226.con, inl := [224, 191], ann := anns }
theorem env224ok : ConOK env224 := fun g c h => env226ok g c h
-- no contract: 210 unicode/utf8.DecodeRuneInString 
noncomputable def env210 : Env := { P := Tryz.prog, con := env224.con, inl := [210, 224, 191], ann := anns }
theorem env210ok : ConOK env210 := fun g c h => env224ok g c h
-- no contract: 212 unicode/utf8.DecodeLastRuneInString 
noncomputable def env212 : Env := { P := Tryz.prog, con := env210.con, inl := [212, 210, 224, 191], ann := anns }
theorem env212ok : ConOK env212 := fun g c h => env210ok g c h
-- no contract: 202 internal/bytealg.IndexByteString 
-- no contract: 185 internal/stringslite.IndexByte 
noncomputable def env185 : Env := { P := Tryz.prog, con := env212.con, inl := [185, 212, 210, 224, 191], ann := anns }
theorem env185ok : ConOK env185 := fun g c h => env212ok g c h
-- no contract: 173 strings.IndexByte 
noncomputable def env173 : Env := { P := Tryz.prog, con := env185.con, inl := [173, 185, 212, 210, 224, 191], ann := anns }
theorem env173ok : ConOK env173 := fun g c h => env185ok g c h
noncomputable def con231 : Contract := conOf Tryz.prog 2000 2000 false ((Tryz.prog.funcs[231]?).getD default)
theorem fn231 : FnOK Tryz.prog 231 con231 := checkFn_ok (env := env173) env173ok (fuel := 200) (vcs := []) (by kernel_rfl)
    (valids_nil)
noncomputable def env231 : Env := { P := Tryz.prog, con := (231, con231) :: env173.con, inl := [173, 185, 212, 210, 224, 191], ann := anns }
theorem env231ok : ConOK env231 := ConOK.cons fn231 env173ok
-- no contract: 225 strings.IndexRune 
noncomputable def env225 : Env := { P := Tryz.prog, con := env231.con, inl := [225, 173, 185, 212, 210, 224, 191], ann := anns }
theorem env225ok : ConOK env225 := fun g c h => env231ok g c h
-- no contract: 211 strings.ContainsRune 
noncomputable def env211 : Env := { P := Tryz.prog, con := env225.con, inl := [211, 225, 173, 185, 212, 210, 224, 191], ann := anns }
theorem env211ok : ConOK env211 := fun g c h => env225ok g c h
-- no contract: 195 strings.trimRightUnicode 
noncomputable def env195 : Env := { P := Tryz.prog, con := env211.con, inl := [195, 211, 225, 173, 185, 212, 210, 224, 191], ann := anns }
theorem env195ok : ConOK env195 := fun g c h => env211ok g c h
-- no contract: 194 strings.trimLeftUnicode 
noncomputable def env194 : Env := { P := Tryz.prog, con := env195.con, inl := [194, 195, 211, 225, 173, 185, 212, 210, 224, 191], ann := anns }
theorem env194ok : ConOK env194 := fun g c h => env195ok g c h
-- no contract: 178 strings.Trim 
noncomputable def env178 : Env := { P := Tryz.prog, con := env194.con, inl := [178, 194, 195, 211, 225, 173, 185, 212, 210, 224, 191], ann := anns }
theorem env178ok : ConOK env178 := fun g c h => env194ok g c h
noncomputable def con146 : Contract := conOfX Tryz.prog 1099511627776 1099511627776 [] [] [] [(.le (.v 0) (.sub (.c (1099511627791)) (.mul (.c (1099511627776)) (.v 1))))] ((Tryz.prog.funcs[146]?).getD default)
set_option maxRecDepth 100000 in
theorem fn146 : FnOK Tryz.prog 146 con146 := hand146
noncomputable def env146 : Env := { P := Tryz.prog, con := (146, con146) :: env178.con, inl := [178, 194, 195, 211, 225, 173, 185, 212, 210, 224, 191], ann := anns }
theorem env146ok : ConOK env146 := ConOK.cons fn146 env178ok
noncomputable def con91 : Contract := conOf Tryz.prog 1099511627776 1099511627776 false ((Tryz.prog.funcs[91]?).getD default)
theorem fn91 : FnOK Tryz.prog 91 con91 := checkFn_ok (env := env146) env146ok (fuel := 200) (vcs := []) (by kernel_rfl)
    (valids_nil)
noncomputable def env91 : Env := { P := Tryz.prog, con := (91, con91) :: env146.con, inl := [178, 194, 195, 211, 225, 173, 185, 212, 210, 224, 191], ann := anns }
theorem env91ok : ConOK env91 := ConOK.cons fn91 env146ok
-- no contract: 92 pointcode/updates.Encode$1 
noncomputable def env92 : Env := { P := Tryz.prog, con := env91.con, inl := [92, 178, 194, 195, 211, 225, 173, 185, 212, 210, 224, 191], ann := anns }
theorem env92ok : ConOK env92 := fun g c h => env91ok g c h
noncomputable def con93 : Contract := conOf Tryz.prog 1099511627776 8 false ((Tryz.prog.funcs[93]?).getD default)
theorem fn93 : FnOK Tryz.prog 93 con93 := checkFn_ok (env := env92) env92ok (fuel := 200) (vcs := [⟨[(.le (.v 0) (.sub (.c (1099511627791)) (.mul (.c (1099511627776)) (.v 1)))), (.eq (.v 1) (.c (1))), (.le (.c (0)) (.v 0)), (.le (.v 0) (.c (1099511627776))), (.le (.c (1)) (.v 1)), (.le (.v 1) (.c (1)))], (.le (.div (.add (.v 0) (.c (1))) (.c (2))) (.div (.add (.v 0) (.c (1))) (.c (2))))⟩,
    ⟨[(.le (.v 0) (.sub (.c (1099511627791)) (.mul (.c (1099511627776)) (.v 1)))), (.eq (.v 1) (.c (1))), (.lt (.v 2) (.div (.add (.v 0) (.c (1))) (.c (2)))), (.lt (.add (.mul (.c (2)) (.v 2)) (.c (1))) (.v 0)), (.le (.c (2)) (.v 0)), (.le (.v 0) (.c (1099511627776))), (.le (.c (1)) (.v 1)), (.le (.v 1) (.c (1))), (.le (.c (0)) (.v 2)), (.le (.v 2) (.c (1099511627776)))], (.lt (.mul (.c (2)) (.v 2)) (.v 0))⟩,
    ⟨[(.le (.v 0) (.sub (.c (1099511627791)) (.mul (.c (1099511627776)) (.v 1)))), (.eq (.v 1) (.c (1))), (.lt (.v 2) (.div (.add (.v 0) (.c (1))) (.c (2)))), (.le (.v 0) (.add (.mul (.c (2)) (.v 2)) (.c (1)))), (.le (.c (0)) (.v 0)), (.le (.v 0) (.c (1099511627776))), (.le (.c (1)) (.v 1)), (.le (.v 1) (.c (1))), (.le (.c (0)) (.v 2)), (.le (.v 2) (.c (1099511627776)))], (.lt (.mul (.c (2)) (.v 2)) (.v 0))⟩,
    ⟨[(.le (.v 0) (.sub (.c (1099511627791)) (.mul (.c (1099511627776)) (.v 1)))), (.eq (.v 1) (.c (1))), (.lt (.v 2) (.div (.add (.v 0) (.c (1))) (.c (2)))), (.lt (.add (.mul (.c (2)) (.v 2)) (.c (1))) (.v 0)), (.le (.c (2)) (.v 0)), (.le (.v 0) (.c (1099511627776))), (.le (.c (1)) (.v 1)), (.le (.v 1) (.c (1))), (.le (.c (0)) (.v 2)), (.le (.v 2) (.c (1099511627776)))], (.le (.c (1)) (.sub (.div (.add (.v 0) (.c (1))) (.c (2))) (.v 2)))⟩,
    ⟨[(.le (.v 0) (.sub (.c (1099511627791)) (.mul (.c (1099511627776)) (.v 1)))), (.eq (.v 1) (.c (1))), (.lt (.v 2) (.div (.add (.v 0) (.c (1))) (.c (2)))), (.lt (.add (.mul (.c (2)) (.v 2)) (.c (1))) (.v 0)), (.le (.c (2)) (.v 0)), (.le (.v 0) (.c (1099511627776))), (.le (.c (1)) (.v 1)), (.le (.v 1) (.c (1))), (.le (.c (0)) (.v 2)), (.le (.v 2) (.c (1099511627776)))], (.lt (.sub (.div (.add (.v 0) (.c (1))) (.c (2))) (.add (.v 2) (.c (1)))) (.sub (.div (.add (.v 0) (.c (1))) (.c (2))) (.v 2)))⟩,
    ⟨[(.le (.v 0) (.sub (.c (1099511627791)) (.mul (.c (1099511627776)) (.v 1)))), (.eq (.v 1) (.c (1))), (.lt (.v 2) (.div (.add (.v 0) (.c (1))) (.c (2)))), (.le (.v 0) (.add (.mul (.c (2)) (.v 2)) (.c (1)))), (.le (.c (0)) (.v 0)), (.le (.v 0) (.c (1099511627776))), (.le (.c (1)) (.v 1)), (.le (.v 1) (.c (1))), (.le (.c (0)) (.v 2)), (.le (.v 2) (.c (1099511627776)))], (.le (.c (1)) (.sub (.div (.add (.v 0) (.c (1))) (.c (2))) (.v 2)))⟩,
    ⟨[(.le (.v 0) (.sub (.c (1099511627791)) (.mul (.c (1099511627776)) (.v 1)))), (.eq (.v 1) (.c (1))), (.lt (.v 2) (.div (.add (.v 0) (.c (1))) (.c (2)))), (.le (.v 0) (.add (.mul (.c (2)) (.v 2)) (.c (1)))), (.le (.c (0)) (.v 0)), (.le (.v 0) (.c (1099511627776))), (.le (.c (1)) (.v 1)), (.le (.v 1) (.c (1))), (.le (.c (0)) (.v 2)), (.le (.v 2) (.c (1099511627776)))], (.lt (.sub (.div (.add (.v 0) (.c (1))) (.c (2))) (.add (.v 2) (.c (1)))) (.sub (.div (.add (.v 0) (.c (1))) (.c (2))) (.v 2)))⟩,
    ⟨[(.le (.v 0) (.sub (.c (1099511627791)) (.mul (.c (1099511627776)) (.v 1)))), (.eq (.v 1) (.c (1))), (.le (.div (.add (.v 0) (.c (1))) (.c (2))) (.v 2)), (.le (.c (0)) (.v 0)), (.le (.v 0) (.c (1099511627776))), (.le (.c (1)) (.v 1)), (.le (.v 1) (.c (1))), (.le (.c (0)) (.v 2)), (.le (.v 2) (.c (9223372036854775807)))], (.le (.div (.add (.v 0) (.c (1))) (.c (2))) (.c (8)))⟩,
    ⟨[(.le (.v 0) (.sub (.c (1099511627791)) (.mul (.c (1099511627776)) (.v 1)))), (.eq (.v 1) (.c (1))), (.le (.div (.add (.v 0) (.c (1))) (.c (2))) (.v 2)), (.le (.c (0)) (.v 0)), (.le (.v 0) (.c (1099511627776))), (.le (.c (1)) (.v 1)), (.le (.v 1) (.c (1))), (.le (.c (0)) (.v 2)), (.le (.v 2) (.c (9223372036854775807)))], (.le (.div (.add (.v 0) (.c (1))) (.c (2))) (.div (.add (.v 0) (.c (1))) (.c (2))))⟩]) (by kernel_rfl)
    (valids_cons (by intro ρ h; first | (simp only [holdsAll, Fm.holds, T.ev] at h ⊢; omega) | (simp [holdsAll, Fm.holds, T.ev] at h ⊢; done) | (simp [holdsAll, Fm.holds, T.ev] at h ⊢; omega))
    (valids_cons (by intro ρ h; first | (simp only [holdsAll, Fm.holds, T.ev] at h ⊢; omega) | (simp [holdsAll, Fm.holds, T.ev] at h ⊢; done) | (simp [holdsAll, Fm.holds, T.ev] at h ⊢; omega))
    (valids_cons (by intro ρ h; first | (simp only [holdsAll, Fm.holds, T.ev] at h ⊢; omega) | (simp [holdsAll, Fm.holds, T.ev] at h ⊢; done) | (simp [holdsAll, Fm.holds, T.ev] at h ⊢; omega))
    (valids_cons (by intro ρ h; first | (simp only [holdsAll, Fm.holds, T.ev] at h ⊢; omega) | (simp [holdsAll, Fm.holds, T.ev] at h ⊢; done) | (simp [holdsAll, Fm.holds, T.ev] at h ⊢; omega))
    (valids_cons (by intro ρ h; first | (simp only [holdsAll, Fm.holds, T.ev] at h ⊢; omega) | (simp [holdsAll, Fm.holds, T.ev] at h ⊢; done) | (simp [holdsAll, Fm.holds, T.ev] at h ⊢; omega))
    (valids_cons (by intro ρ h; first | (simp only [holdsAll, Fm.holds, T.ev] at h ⊢; omega) | (simp [holdsAll, Fm.holds, T.ev] at h ⊢; done) | (simp [holdsAll, Fm.holds, T.ev] at h ⊢; omega))
    (valids_cons (by intro ρ h; first | (simp only [holdsAll, Fm.holds, T.ev] at h ⊢; omega) | (simp [holdsAll, Fm.holds, T.ev] at h ⊢; done) | (simp [holdsAll, Fm.holds, T.ev] at h ⊢; omega))
    (valids_cons (by intro ρ h; first | (simp only [holdsAll, Fm.holds, T.ev] at h ⊢; omega) | (simp [holdsAll, Fm.holds, T.ev] at h ⊢; done) | (simp [holdsAll, Fm.holds, T.ev] at h ⊢; omega))
    (valids_cons (by intro ρ h; first | (simp only [holdsAll, Fm.holds, T.ev] at h ⊢; omega) | (simp [holdsAll, Fm.holds, T.ev] at h ⊢; done) | (simp [holdsAll, Fm.holds, T.ev] at h ⊢; omega))
    (valids_nil))))))))))
noncomputable def env93 : Env := { P := Tryz.prog, con := (93, con93) :: env92.con, inl := [92, 178, 194, 195, 211, 225, 173, 185, 212, 210, 224, 191], ann := anns }
theorem env93ok : ConOK env93 := ConOK.cons fn93 env92ok
noncomputable def con73 : Contract := conOf Tryz.prog 2000 8 false ((Tryz.prog.funcs[73]?).getD default)
theorem fn73 : FnOK Tryz.prog 73 con73 := checkFn_ok (env := env93) env93ok (fuel := 200) (vcs := [⟨[(.le (.c (1)) (.v 1)), (.le (.v 1) (.c (8))), (.lt (.v 1) (.c (8))), (.le (.c (1)) (.v 1)), (.le (.v 1) (.c (7)))], (.lt (.sub (.c (8)) (.add (.v 1) (.c (1)))) (.sub (.c (8)) (.v 1)))⟩,
    ⟨[(.le (.c (1)) (.v 1)), (.le (.v 1) (.c (8))), (.lt (.v 1) (.c (8))), (.le (.c (1)) (.v 1)), (.le (.v 1) (.c (7)))], (.le (.v 1) (.v 1))⟩,
    ⟨[(.le (.c (1)) (.v 1)), (.le (.v 1) (.c (8))), (.lt (.v 1) (.c (8))), (.lt (.v 4) (.v 1)), (.le (.c (1)) (.v 1)), (.le (.v 1) (.c (7))), (.le (.c (0)) (.v 4)), (.le (.v 4) (.c (6)))], (.le (.c (0)) (.sub (.add (.v 1) (.c (-1))) (.v 4)))⟩,
    ⟨[(.le (.c (1)) (.v 1)), (.le (.v 1) (.c (8))), (.lt (.v 1) (.c (8))), (.lt (.v 4) (.v 1)), (.le (.c (1)) (.v 1)), (.le (.v 1) (.c (7))), (.le (.c (0)) (.v 4)), (.le (.v 4) (.c (6)))], (.lt (.sub (.add (.v 1) (.c (-1))) (.v 4)) (.v 1))⟩,
    ⟨[(.le (.c (1)) (.v 1)), (.le (.v 1) (.c (8))), (.lt (.v 1) (.c (8))), (.lt (.v 4) (.v 1)), (.le (.c (1)) (.v 1)), (.le (.v 1) (.c (7))), (.le (.c (0)) (.v 4)), (.le (.v 4) (.c (6)))], (.le (.c (1)) (.sub (.v 1) (.v 4)))⟩,
    ⟨[(.le (.c (1)) (.v 1)), (.le (.v 1) (.c (8))), (.lt (.v 1) (.c (8))), (.lt (.v 4) (.v 1)), (.le (.c (1)) (.v 1)), (.le (.v 1) (.c (7))), (.le (.c (0)) (.v 4)), (.le (.v 4) (.c (6)))], (.lt (.sub (.v 1) (.add (.v 4) (.c (1)))) (.sub (.v 1) (.v 4)))⟩,
    ⟨[(.le (.c (1)) (.v 1)), (.le (.v 1) (.c (8))), (.lt (.v 1) (.c (8))), (.le (.c (1)) (.v 1)), (.le (.v 1) (.c (7)))], (.le (.v 1) (.v 1))⟩,
    ⟨[(.le (.c (1)) (.v 1)), (.le (.v 1) (.c (8))), (.lt (.v 1) (.c (8))), (.lt (.v 3) (.v 1)), (.le (.c (1)) (.v 1)), (.le (.v 1) (.c (7))), (.le (.c (0)) (.v 3)), (.le (.v 3) (.c (6)))], (.le (.c (0)) (.sub (.add (.v 1) (.c (-1))) (.v 3)))⟩,
    ⟨[(.le (.c (1)) (.v 1)), (.le (.v 1) (.c (8))), (.lt (.v 1) (.c (8))), (.lt (.v 3) (.v 1)), (.le (.c (1)) (.v 1)), (.le (.v 1) (.c (7))), (.le (.c (0)) (.v 3)), (.le (.v 3) (.c (6)))], (.lt (.sub (.add (.v 1) (.c (-1))) (.v 3)) (.v 1))⟩,
    ⟨[(.le (.c (1)) (.v 1)), (.le (.v 1) (.c (8))), (.lt (.v 1) (.c (8))), (.lt (.v 3) (.v 1)), (.le (.c (1)) (.v 1)), (.le (.v 1) (.c (7))), (.le (.c (0)) (.v 3)), (.le (.v 3) (.c (6)))], (.le (.c (1)) (.sub (.v 1) (.v 3)))⟩,
    ⟨[(.le (.c (1)) (.v 1)), (.le (.v 1) (.c (8))), (.lt (.v 1) (.c (8))), (.lt (.v 3) (.v 1)), (.le (.c (1)) (.v 1)), (.le (.v 1) (.c (7))), (.le (.c (0)) (.v 3)), (.le (.v 3) (.c (6)))], (.lt (.sub (.v 1) (.add (.v 3) (.c (1)))) (.sub (.v 1) (.v 3)))⟩,
    ⟨[(.le (.c (1)) (.v 1)), (.le (.v 1) (.c (8))), (.le (.c (8)) (.v 1)), (.lt (.v 2) (.v 1)), (.le (.c (8)) (.v 1)), (.le (.v 1) (.c (8))), (.le (.c (0)) (.v 2)), (.le (.v 2) (.c (7)))], (.lt (.sub (.v 1) (.add (.v 2) (.c (1)))) (.sub (.v 1) (.v 2)))⟩,
    ⟨[(.le (.c (1)) (.v 1)), (.le (.v 1) (.c (8))), (.lt (.v 1) (.c (8))), (.le (.v 1) (.v 4)), (.le (.c (1)) (.v 1)), (.le (.v 1) (.c (7))), (.le (.c (1)) (.v 4)), (.le (.v 4) (.c (9223372036854775807)))], (.le (.v 1) (.v 1))⟩,
    ⟨[(.le (.c (1)) (.v 1)), (.le (.v 1) (.c (8))), (.lt (.v 1) (.c (8))), (.le (.v 1) (.v 3)), (.le (.c (1)) (.v 1)), (.le (.v 1) (.c (7))), (.le (.c (1)) (.v 3)), (.le (.v 3) (.c (9223372036854775807)))], (.le (.v 1) (.v 1))⟩]) (by kernel_rfl)
    (valids_cons (by intro ρ h; first | (simp only [holdsAll, Fm.holds, T.ev] at h ⊢; omega) | (simp [holdsAll, Fm.holds, T.ev] at h ⊢; done) | (simp [holdsAll, Fm.holds, T.ev] at h ⊢; omega))
    (valids_cons (by intro ρ h; first | (simp only [holdsAll, Fm.holds, T.ev] at h ⊢; omega) | (simp [holdsAll, Fm.holds, T.ev] at h ⊢; done) | (simp [holdsAll, Fm.holds, T.ev] at h ⊢; omega))
    (valids_cons (by intro ρ h; first | (simp only [holdsAll, Fm.holds, T.ev] at h ⊢; omega) | (simp [holdsAll, Fm.holds, T.ev] at h ⊢; done) | (simp [holdsAll, Fm.holds, T.ev] at h ⊢; omega))
    (valids_cons (by intro ρ h; first | (simp only [holdsAll, Fm.holds, T.ev] at h ⊢; omega) | (simp [holdsAll, Fm.holds, T.ev] at h ⊢; done) | (simp [holdsAll, Fm.holds, T.ev] at h ⊢; omega))
    (valids_cons (by intro ρ h; first | (simp only [holdsAll, Fm.holds, T.ev] at h ⊢; omega) | (simp [holdsAll, Fm.holds, T.ev] at h ⊢; done) | (simp [holdsAll, Fm.holds, T.ev] at h ⊢; omega))
    (valids_cons (by intro ρ h; first | (simp only [holdsAll, Fm.holds, T.ev] at h ⊢; omega) | (simp [holdsAll, Fm.holds, T.ev] at h ⊢; done) | (simp [holdsAll, Fm.holds, T.ev] at h ⊢; omega))
    (valids_cons (by intro ρ h; first | (simp only [holdsAll, Fm.holds, T.ev] at h ⊢; omega) | (simp [holdsAll, Fm.holds, T.ev] at h ⊢; done) | (simp [holdsAll, Fm.holds, T.ev] at h ⊢; omega))
    (valids_cons (by intro ρ h; first | (simp only [holdsAll, Fm.holds, T.ev] at h ⊢; omega) | (simp [holdsAll, Fm.holds, T.ev] at h ⊢; done) | (simp [holdsAll, Fm.holds, T.ev] at h ⊢; omega))
    (valids_cons (by intro ρ h; first | (simp only [holdsAll, Fm.holds, T.ev] at h ⊢; omega) | (simp [holdsAll, Fm.holds, T.ev] at h ⊢; done) | (simp [holdsAll, Fm.holds, T.ev] at h ⊢; omega))
    (valids_cons (by intro ρ h; first | (simp only [holdsAll, Fm.holds, T.ev] at h ⊢; omega) | (simp [holdsAll, Fm.holds, T.ev] at h ⊢; done) | (simp [holdsAll, Fm.holds, T.ev] at h ⊢; omega))
    (valids_cons (by intro ρ h; first | (simp only [holdsAll, Fm.holds, T.ev] at h ⊢; omega) | (simp [holdsAll, Fm.holds, T.ev] at h ⊢; done) | (simp [holdsAll, Fm.holds, T.ev] at h ⊢; omega))
    (valids_cons (by intro ρ h; first | (simp only [holdsAll, Fm.holds, T.ev] at h ⊢; omega) | (simp [holdsAll, Fm.holds, T.ev] at h ⊢; done) | (simp [holdsAll, Fm.holds, T.ev] at h ⊢; omega))
    (valids_cons (by intro ρ h; first | (simp only [holdsAll, Fm.holds, T.ev] at h ⊢; omega) | (simp [holdsAll, Fm.holds, T.ev] at h ⊢; done) | (simp [holdsAll, Fm.holds, T.ev] at h ⊢; omega))
    (valids_cons (by intro ρ h; first | (simp only [holdsAll, Fm.holds, T.ev] at h ⊢; omega) | (simp [holdsAll, Fm.holds, T.ev] at h ⊢; done) | (simp [holdsAll, Fm.holds, T.ev] at h ⊢; omega))
    (valids_nil)))))))))))))))
noncomputable def env73 : Env := { P := Tryz.prog, con := (73, con73) :: env93.con, inl := [92, 178, 194, 195, 211, 225, 173, 185, 212, 210, 224, 191], ann := anns }
theorem env73ok : ConOK env73 := ConOK.cons fn73 env93ok
-- no contract: 123 pointcode/tags.measure 
-- no contract: 130 slices.IndexFunc[[]pointcode/tags.Tree,pointcode/tags.Tree] 
noncomputable def env130 : Env := { P := Tryz.prog, con := env73.con, inl := [130, 92, 178, 194, 195, 211, 225, 173, 185, 212, 210, 224, 191], ann := anns }
theorem env130ok : ConOK env130 := fun g c h => env73ok g c h
-- no contract: 159 slices.ContainsFunc[[]pointcode/tags.Tree,pointcode/tags.Tree] 
noncomputable def env159 : Env := { P := Tryz.prog, con := env130.con, inl := [159, 130, 92, 178, 194, 195, 211, 225, 173, 185, 212, 210, 224, 191], ann := anns }
theorem env159ok : ConOK env159 := fun g c h => env130ok g c h
-- no contract: 160 pointcode/tags.plain$1 
-- no contract: 124 pointcode/tags.plain 
-- no contract: 48 pointcode/tags.Check 
noncomputable def env48 : Env := { P := Tryz.prog, con := env159.con, inl := [48, 159, 130, 92, 178, 194, 195, 211, 225, 173, 185, 212, 210, 224, 191], ann := anns }
theorem env48ok : ConOK env48 := fun g c h => env159ok g c h
-- no contract: 162 pointcode/tags.identifier 
noncomputable def env162 : Env := { P := Tryz.prog, con := env48.con, inl := [162, 48, 159, 130, 92, 178, 194, 195, 211, 225, 173, 185, 212, 210, 224, 191], ann := anns }
theorem env162ok : ConOK env162 := fun g c h => env48ok g c h
-- no contract: 161 pointcode/tags.size 
noncomputable def env161 : Env := { P := Tryz.prog, con := env162.con, inl := [161, 162, 48, 159, 130, 92, 178, 194, 195, 211, 225, 173, 185, 212, 210, 224, 191], ann := anns }
theorem env161ok : ConOK env161 := fun g c h => env162ok g c h
-- no contract: 125 pointcode/tags.long 
noncomputable def con94 : Contract := conOfX Tryz.prog 20000000000000 20000000000000 [0] [] [] [(.eq (.v 2) (.v 0))] ((Tryz.prog.funcs[94]?).getD default)
theorem fn94 : FnOK Tryz.prog 94 con94 := checkFn_ok (env := env161) env161ok (fuel := 200) (vcs := [⟨[(.le (.v 0) (.v 1)), (.le (.c (0)) (.v 0)), (.le (.v 0) (.c (20000000000000))), (.le (.c (0)) (.v 1)), (.le (.v 1) (.c (9223372036854775807)))], (.le (.v 0) (.v 0))⟩,
    ⟨[(.le (.v 0) (.v 1)), (.le (.c (0)) (.v 0)), (.le (.v 0) (.c (20000000000000))), (.le (.c (0)) (.v 1)), (.le (.v 1) (.c (9223372036854775807)))], (.le (.v 0) (.v 0))⟩]) (by kernel_rfl)
    (valids_cons (by intro ρ h; first | (simp only [holdsAll, Fm.holds, T.ev] at h ⊢; omega) | (simp [holdsAll, Fm.holds, T.ev] at h ⊢; done) | (simp [holdsAll, Fm.holds, T.ev] at h ⊢; omega))
    (valids_cons (by intro ρ h; first | (simp only [holdsAll, Fm.holds, T.ev] at h ⊢; omega) | (simp [holdsAll, Fm.holds, T.ev] at h ⊢; done) | (simp [holdsAll, Fm.holds, T.ev] at h ⊢; omega))
    (valids_nil)))
noncomputable def env94 : Env := { P := Tryz.prog, con := (94, con94) :: env161.con, inl := [161, 162, 48, 159, 130, 92, 178, 194, 195, 211, 225, 173, 185, 212, 210, 224, 191], ann := anns }
theorem env94ok : ConOK env94 := ConOK.cons fn94 env161ok
-- no contract: 126 pointcode/tags.encode 
-- no contract: 57 pointcode/tags.EncodeAs 
noncomputable def env57 : Env := { P := Tryz.prog, con := env94.con, inl := [57, 161, 162, 48, 159, 130, 92, 178, 194, 195, 211, 225, 173, 185, 212, 210, 224, 191], ann := anns }
theorem env57ok : ConOK env57 := fun g c h => env94ok g c h
noncomputable def con54 : Contract := conOf Tryz.prog 1099511627776 65536 false ((Tryz.prog.funcs[54]?).getD default)
set_option maxRecDepth 100000 in
theorem fn54 : FnOK Tryz.prog 54 con54 := hand54
noncomputable def env54 : Env := { P := Tryz.prog, con := (54, con54) :: env57.con, inl := [57, 161, 162, 48, 159, 130, 92, 178, 194, 195, 211, 225, 173, 185, 212, 210, 224, 191], ann := anns }
theorem env54ok : ConOK env54 := ConOK.cons fn54 env57ok
noncomputable def con10 : Contract := conOf Tryz.prog 1099511627776 65536 false ((Tryz.prog.funcs[10]?).getD default)
theorem fn10 : FnOK Tryz.prog 10 con10 := checkFn_ok (env := env54) env54ok (fuel := 200) (vcs := [⟨[(.le (.v 12) (.v 13)), (.le (.v 12) (.v 11)), (.le (.v 11) (.c (3))), (.lt (.v 11) (.c (3))), (.le (.add (.v 12) (.c (1))) (.v 20)), (.le (.c (0)) (.v 11)), (.le (.v 11) (.c (2))), (.le (.c (0)) (.v 12)), (.le (.v 12) (.c (1099511627776))), (.le (.c (0)) (.v 13)), (.le (.v 13) (.c (9223372036854775807))), (.le (.c (0)) (.v 20)), (.le (.v 20) (.c (9223372036854775807)))], (.lt (.v 12) (.add (.v 12) (.c (1))))⟩,
    ⟨[(.le (.v 12) (.v 13)), (.le (.v 12) (.v 11)), (.le (.v 11) (.c (3))), (.lt (.v 11) (.c (3))), (.le (.add (.v 12) (.c (1))) (.v 20)), (.le (.c (0)) (.v 11)), (.le (.v 11) (.c (2))), (.le (.c (0)) (.v 12)), (.le (.v 12) (.c (1099511627776))), (.le (.c (0)) (.v 13)), (.le (.v 13) (.c (9223372036854775807))), (.le (.c (0)) (.v 20)), (.le (.v 20) (.c (9223372036854775807)))], (.le (.add (.v 12) (.c (1))) (.add (.v 11) (.c (1))))⟩,
    ⟨[(.le (.v 12) (.v 13)), (.le (.v 12) (.v 11)), (.le (.v 11) (.c (3))), (.lt (.v 11) (.c (3))), (.le (.add (.v 12) (.c (1))) (.v 20)), (.le (.c (0)) (.v 11)), (.le (.v 11) (.c (2))), (.le (.c (0)) (.v 12)), (.le (.v 12) (.c (1099511627776))), (.le (.c (0)) (.v 13)), (.le (.v 13) (.c (9223372036854775807))), (.le (.c (0)) (.v 20)), (.le (.v 20) (.c (9223372036854775807)))], (.le (.add (.v 12) (.c (1))) (.c (1099511627776)))⟩,
    ⟨[(.le (.v 12) (.v 13)), (.le (.v 12) (.v 11)), (.le (.v 11) (.c (3))), (.lt (.v 11) (.c (3))), (.le (.add (.v 12) (.c (1))) (.v 20)), (.le (.c (0)) (.v 11)), (.le (.v 11) (.c (2))), (.le (.c (0)) (.v 12)), (.le (.v 12) (.c (1099511627776))), (.le (.c (0)) (.v 13)), (.le (.v 13) (.c (9223372036854775807))), (.le (.c (0)) (.v 20)), (.le (.v 20) (.c (9223372036854775807)))], (.lt (.sub (.c (3)) (.add (.v 11) (.c (1)))) (.sub (.c (3)) (.v 11)))⟩,
    ⟨[(.le (.v 12) (.v 13)), (.le (.v 12) (.v 11)), (.le (.v 11) (.c (3))), (.lt (.v 11) (.c (3))), (.le (.c (0)) (.v 11)), (.le (.v 11) (.c (2))), (.le (.c (0)) (.v 12)), (.le (.v 12) (.c (1099511627776))), (.le (.c (0)) (.v 13)), (.le (.v 13) (.c (9223372036854775807)))], (.le (.v 12) (.add (.v 11) (.c (1))))⟩,
    ⟨[(.le (.v 12) (.v 13)), (.le (.v 12) (.v 11)), (.le (.v 11) (.c (3))), (.lt (.v 11) (.c (3))), (.le (.c (0)) (.v 11)), (.le (.v 11) (.c (2))), (.le (.c (0)) (.v 12)), (.le (.v 12) (.c (1099511627776))), (.le (.c (0)) (.v 13)), (.le (.v 13) (.c (9223372036854775807)))], (.lt (.sub (.c (3)) (.add (.v 11) (.c (1)))) (.sub (.c (3)) (.v 11)))⟩,
    ⟨[(.le (.v 12) (.v 13)), (.le (.v 12) (.v 11)), (.le (.v 11) (.c (3))), (.le (.c (3)) (.v 11)), (.le (.c (3)) (.v 11)), (.le (.v 11) (.c (3))), (.le (.c (0)) (.v 12)), (.le (.v 12) (.c (1099511627776))), (.le (.c (0)) (.v 13)), (.le (.v 13) (.c (9223372036854775807)))], (.le (.v 12) (.add (.c (3)) (.c (0))))⟩,
    ⟨[(.le (.v 16) (.v 17)), (.le (.v 16) (.add (.c (3)) (.v 15))), (.le (.v 15) (.c (3))), (.lt (.v 15) (.c (3))), (.le (.add (.v 16) (.c (1))) (.v 22)), (.le (.c (0)) (.v 15)), (.le (.v 15) (.c (2))), (.le (.c (0)) (.v 16)), (.le (.v 16) (.c (1099511627776))), (.le (.c (0)) (.v 17)), (.le (.v 17) (.c (9223372036854775807))), (.le (.c (0)) (.v 22)), (.le (.v 22) (.c (9223372036854775807)))], (.lt (.v 16) (.add (.v 16) (.c (1))))⟩,
    ⟨[(.le (.v 16) (.v 17)), (.le (.v 16) (.add (.c (3)) (.v 15))), (.le (.v 15) (.c (3))), (.lt (.v 15) (.c (3))), (.le (.add (.v 16) (.c (1))) (.v 22)), (.le (.c (0)) (.v 15)), (.le (.v 15) (.c (2))), (.le (.c (0)) (.v 16)), (.le (.v 16) (.c (1099511627776))), (.le (.c (0)) (.v 17)), (.le (.v 17) (.c (9223372036854775807))), (.le (.c (0)) (.v 22)), (.le (.v 22) (.c (9223372036854775807)))], (.le (.add (.v 16) (.c (1))) (.add (.c (3)) (.add (.v 15) (.c (1)))))⟩,
    ⟨[(.le (.v 16) (.v 17)), (.le (.v 16) (.add (.c (3)) (.v 15))), (.le (.v 15) (.c (3))), (.lt (.v 15) (.c (3))), (.le (.add (.v 16) (.c (1))) (.v 22)), (.le (.c (0)) (.v 15)), (.le (.v 15) (.c (2))), (.le (.c (0)) (.v 16)), (.le (.v 16) (.c (1099511627776))), (.le (.c (0)) (.v 17)), (.le (.v 17) (.c (9223372036854775807))), (.le (.c (0)) (.v 22)), (.le (.v 22) (.c (9223372036854775807)))], (.le (.add (.v 16) (.c (1))) (.c (1099511627776)))⟩,
    ⟨[(.le (.v 16) (.v 17)), (.le (.v 16) (.add (.c (3)) (.v 15))), (.le (.v 15) (.c (3))), (.lt (.v 15) (.c (3))), (.le (.add (.v 16) (.c (1))) (.v 22)), (.le (.c (0)) (.v 15)), (.le (.v 15) (.c (2))), (.le (.c (0)) (.v 16)), (.le (.v 16) (.c (1099511627776))), (.le (.c (0)) (.v 17)), (.le (.v 17) (.c (9223372036854775807))), (.le (.c (0)) (.v 22)), (.le (.v 22) (.c (9223372036854775807)))], (.lt (.sub (.c (3)) (.add (.v 15) (.c (1)))) (.sub (.c (3)) (.v 15)))⟩,
    ⟨[(.le (.v 16) (.v 17)), (.le (.v 16) (.add (.c (3)) (.v 15))), (.le (.v 15) (.c (3))), (.lt (.v 15) (.c (3))), (.le (.c (0)) (.v 15)), (.le (.v 15) (.c (2))), (.le (.c (0)) (.v 16)), (.le (.v 16) (.c (1099511627776))), (.le (.c (0)) (.v 17)), (.le (.v 17) (.c (9223372036854775807)))], (.le (.v 16) (.add (.c (3)) (.add (.v 15) (.c (1)))))⟩,
    ⟨[(.le (.v 16) (.v 17)), (.le (.v 16) (.add (.c (3)) (.v 15))), (.le (.v 15) (.c (3))), (.lt (.v 15) (.c (3))), (.le (.c (0)) (.v 15)), (.le (.v 15) (.c (2))), (.le (.c (0)) (.v 16)), (.le (.v 16) (.c (1099511627776))), (.le (.c (0)) (.v 17)), (.le (.v 17) (.c (9223372036854775807)))], (.lt (.sub (.c (3)) (.add (.v 15) (.c (1)))) (.sub (.c (3)) (.v 15)))⟩,
    ⟨[(.le (.v 16) (.v 17)), (.le (.v 16) (.add (.c (3)) (.v 15))), (.le (.v 15) (.c (3))), (.le (.c (3)) (.v 15)), (.le (.add (.v 16) (.c (1))) (.v 19)), (.le (.c (3)) (.v 15)), (.le (.v 15) (.c (3))), (.le (.c (0)) (.v 16)), (.le (.v 16) (.c (1099511627776))), (.le (.c (0)) (.v 17)), (.le (.v 17) (.c (9223372036854775807))), (.le (.c (0)) (.v 19)), (.le (.v 19) (.c (9223372036854775807)))], (.lt (.v 16) (.add (.v 16) (.c (1))))⟩,
    ⟨[(.le (.v 16) (.v 17)), (.le (.v 16) (.add (.c (3)) (.v 15))), (.le (.v 15) (.c (3))), (.le (.c (3)) (.v 15)), (.le (.add (.v 16) (.c (1))) (.v 19)), (.le (.c (3)) (.v 15)), (.le (.v 15) (.c (3))), (.le (.c (0)) (.v 16)), (.le (.v 16) (.c (1099511627776))), (.le (.c (0)) (.v 17)), (.le (.v 17) (.c (9223372036854775807))), (.le (.c (0)) (.v 19)), (.le (.v 19) (.c (9223372036854775807)))], (.le (.add (.v 16) (.c (1))) (.c (1099511627776)))⟩,
    ⟨[(.le (.v 20) (.v 21)), (.le (.v 23) (.v 24)), (.eq (.v 23) (.v 20)), (.le (.c (0)) (.v 20)), (.le (.v 20) (.c (65536))), (.le (.c (0)) (.v 21)), (.le (.v 21) (.c (9223372036854775807))), (.le (.c (0)) (.v 23)), (.le (.v 23) (.c (20000000000000))), (.le (.c (0)) (.v 24)), (.le (.v 24) (.c (9223372036854775807)))], (.le (.v 23) (.c (65536)))⟩,
    ⟨[(.le (.v 18) (.v 19)), (.le (.v 21) (.v 22)), (.eq (.v 21) (.v 18)), (.le (.c (0)) (.v 18)), (.le (.v 18) (.c (65536))), (.le (.c (0)) (.v 19)), (.le (.v 19) (.c (9223372036854775807))), (.le (.c (0)) (.v 21)), (.le (.v 21) (.c (20000000000000))), (.le (.c (0)) (.v 22)), (.le (.v 22) (.c (9223372036854775807)))], (.le (.v 21) (.c (65536)))⟩]) (by kernel_rfl)
    (valids_cons (by intro ρ h; first | (simp only [holdsAll, Fm.holds, T.ev] at h ⊢; omega) | (simp [holdsAll, Fm.holds, T.ev] at h ⊢; done) | (simp [holdsAll, Fm.holds, T.ev] at h ⊢; omega))
    (valids_cons (by intro ρ h; first | (simp only [holdsAll, Fm.holds, T.ev] at h ⊢; omega) | (simp [holdsAll, Fm.holds, T.ev] at h ⊢; done) | (simp [holdsAll, Fm.holds, T.ev] at h ⊢; omega))
    (valids_cons (by intro ρ h; first | (simp only [holdsAll, Fm.holds, T.ev] at h ⊢; omega) | (simp [holdsAll, Fm.holds, T.ev] at h ⊢; done) | (simp [holdsAll, Fm.holds, T.ev] at h ⊢; omega))
    (valids_cons (by intro ρ h; first | (simp only [holdsAll, Fm.holds, T.ev] at h ⊢; omega) | (simp [holdsAll, Fm.holds, T.ev] at h ⊢; done) | (simp [holdsAll, Fm.holds, T.ev] at h ⊢; omega))
    (valids_cons (by intro ρ h; first | (simp only [holdsAll, Fm.holds, T.ev] at h ⊢; omega) | (simp [holdsAll, Fm.holds, T.ev] at h ⊢; done) | (simp [holdsAll, Fm.holds, T.ev] at h ⊢; omega))
    (valids_cons (by intro ρ h; first | (simp only [holdsAll, Fm.holds, T.ev] at h ⊢; omega) | (simp [holdsAll, Fm.holds, T.ev] at h ⊢; done) | (simp [holdsAll, Fm.holds, T.ev] at h ⊢; omega))
    (valids_cons (by intro ρ h; first | (simp only [holdsAll, Fm.holds, T.ev] at h ⊢; omega) | (simp [holdsAll, Fm.holds, T.ev] at h ⊢; done) | (simp [holdsAll, Fm.holds, T.ev] at h ⊢; omega))
    (valids_cons (by intro ρ h; first | (simp only [holdsAll, Fm.holds, T.ev] at h ⊢; omega) | (simp [holdsAll, Fm.holds, T.ev] at h ⊢; done) | (simp [holdsAll, Fm.holds, T.ev] at h ⊢; omega))
    (valids_cons (by intro ρ h; first | (simp only [holdsAll, Fm.holds, T.ev] at h ⊢; omega) | (simp [holdsAll, Fm.holds, T.ev] at h ⊢; done) | (simp [holdsAll, Fm.holds, T.ev] at h ⊢; omega))
    (valids_cons (by intro ρ h; first | (simp only [holdsAll, Fm.holds, T.ev] at h ⊢; omega) | (simp [holdsAll, Fm.holds, T.ev] at h ⊢; done) | (simp [holdsAll, Fm.holds, T.ev] at h ⊢; omega))
    (valids_cons (by intro ρ h; first | (simp only [holdsAll, Fm.holds, T.ev] at h ⊢; omega) | (simp [holdsAll, Fm.holds, T.ev] at h ⊢; done) | (simp [holdsAll, Fm.holds, T.ev] at h ⊢; omega))
    (valids_cons (by intro ρ h; first | (simp only [holdsAll, Fm.holds, T.ev] at h ⊢; omega) | (simp [holdsAll, Fm.holds, T.ev] at h ⊢; done) | (simp [holdsAll, Fm.holds, T.ev] at h ⊢; omega))
    (valids_cons (by intro ρ h; first | (simp only [holdsAll, Fm.holds, T.ev] at h ⊢; omega) | (simp [holdsAll, Fm.holds, T.ev] at h ⊢; done) | (simp [holdsAll, Fm.holds, T.ev] at h ⊢; omega))
    (valids_cons (by intro ρ h; first | (simp only [holdsAll, Fm.holds, T.ev] at h ⊢; omega) | (simp [holdsAll, Fm.holds, T.ev] at h ⊢; done) | (simp [holdsAll, Fm.holds, T.ev] at h ⊢; omega))
    (valids_cons (by intro ρ h; first | (simp only [holdsAll, Fm.holds, T.ev] at h ⊢; omega) | (simp [holdsAll, Fm.holds, T.ev] at h ⊢; done) | (simp [holdsAll, Fm.holds, T.ev] at h ⊢; omega))
    (valids_cons (by intro ρ h; first | (simp only [holdsAll, Fm.holds, T.ev] at h ⊢; omega) | (simp [holdsAll, Fm.holds, T.ev] at h ⊢; done) | (simp [holdsAll, Fm.holds, T.ev] at h ⊢; omega))
    (valids_cons (by intro ρ h; first | (simp only [holdsAll, Fm.holds, T.ev] at h ⊢; omega) | (simp [holdsAll, Fm.holds, T.ev] at h ⊢; done) | (simp [holdsAll, Fm.holds, T.ev] at h ⊢; omega))
    (valids_nil))))))))))))))))))
noncomputable def env10 : Env := { P := Tryz.prog, con := (10, con10) :: env54.con, inl := [57, 161, 162, 48, 159, 130, 92, 178, 194, 195, 211, 225, 173, 185, 212, 210, 224, 191], ann := anns }
theorem env10ok : ConOK env10 := ConOK.cons fn10 env54ok
-- no contract: 127 pointcode/tags.First$1 
noncomputable def env127 : Env := { P := Tryz.prog, con := env10.con, inl := [127, 57, 161, 162, 48, 159, 130, 92, 178, 194, 195, 211, 225, 173, 185, 212, 210, 224, 191], ann := anns }
theorem env127ok : ConOK env127 := fun g c h => env10ok g c h
-- no contract: 163 pointcode/tags.must conditions fail
noncomputable def env163 : Env := { P := Tryz.prog, con := env127.con, inl := [163, 127, 57, 161, 162, 48, 159, 130, 92, 178, 194, 195, 211, 225, 173, 185, 212, 210, 224, 191], ann := anns }
theorem env163ok : ConOK env163 := fun g c h => env127ok g c h
-- no contract: 168 (*pointcode/tags.input).take conditions fail
noncomputable def env168 : Env := { P := Tryz.prog, con := env163.con, inl := [168, 163, 127, 57, 161, 162, 48, 159, 130, 92, 178, 194, 195, 211, 225, 173, 185, 212, 210, 224, 191], ann := anns }
theorem env168ok : ConOK env168 := fun g c h => env163ok g c h
-- no contract: 164 (*pointcode/tags.input).next conditions fail
noncomputable def env164 : Env := { P := Tryz.prog, con := env168.con, inl := [164, 168, 163, 127, 57, 161, 162, 48, 159, 130, 92, 178, 194, 195, 211, 225, 173, 185, 212, 210, 224, 191], ann := anns }
theorem env164ok : ConOK env164 := fun g c h => env168ok g c h
-- no contract: 165 (*pointcode/tags.decoder).number 
noncomputable def env165 : Env := { P := Tryz.prog, con := env164.con, inl := [165, 164, 168, 163, 127, 57, 161, 162, 48, 159, 130, 92, 178, 194, 195, 211, 225, 173, 185, 212, 210, 224, 191], ann := anns }
theorem env165ok : ConOK env165 := fun g c h => env164ok g c h
-- no contract: 166 (*pointcode/tags.decoder).length conditions fail
noncomputable def env166 : Env := { P := Tryz.prog, con := env165.con, inl := [166, 165, 164, 168, 163, 127, 57, 161, 162, 48, 159, 130, 92, 178, 194, 195, 211, 225, 173, 185, 212, 210, 224, 191], ann := anns }
theorem env166ok : ConOK env166 := fun g c h => env165ok g c h
-- no contract: 167 (*pointcode/tags.decoder).ahead conditions fail
noncomputable def env167 : Env := { P := Tryz.prog, con := env166.con, inl := [167, 166, 165, 164, 168, 163, 127, 57, 161, 162, 48, 159, 130, 92, 178, 194, 195, 211, 225, 173, 185, 212, 210, 224, 191], ann := anns }
theorem env167ok : ConOK env167 := fun g c h => env166ok g c h
noncomputable def con169 : Contract := conOfX Tryz.prog 1000000 1000000 [] [] [] [(.eq (.v 2) (.v 0))] ((Tryz.prog.funcs[169]?).getD default)
theorem fn169 : FnOK Tryz.prog 169 con169 := checkFn_ok (env := env167) env167ok (fuel := 200) (vcs := [⟨[(.le (.v 0) (.v 1)), (.or (.eq (.v 2) (.c (0))) (.eq (.v 0) (.c (0)))), (.eq (.v 2) (.c (1))), (.le (.c (0)) (.v 0)), (.le (.v 0) (.c (1000000))), (.le (.c (0)) (.v 1)), (.le (.v 1) (.c (9223372036854775807))), (.le (.c (1)) (.v 2)), (.le (.v 2) (.c (1)))], (.eq (.c (0)) (.v 0))⟩]) (by kernel_rfl)
    (valids_cons (by intro ρ h; first | (simp only [holdsAll, Fm.holds, T.ev] at h ⊢; omega) | (simp [holdsAll, Fm.holds, T.ev] at h ⊢; done) | (simp [holdsAll, Fm.holds, T.ev] at h ⊢; omega))
    (valids_nil))
noncomputable def env169 : Env := { P := Tryz.prog, con := (169, con169) :: env167.con, inl := [167, 166, 165, 164, 168, 163, 127, 57, 161, 162, 48, 159, 130, 92, 178, 194, 195, 211, 225, 173, 185, 212, 210, 224, 191], ann := anns }
theorem env169ok : ConOK env169 := ConOK.cons fn169 env167ok
noncomputable def con156 : Contract := conOfX Tryz.prog 20000000000000 20000000000000 [0] [] [] [(.eq (.v 2) (.v 0))] ((Tryz.prog.funcs[156]?).getD default)
theorem fn156 : FnOK Tryz.prog 156 con156 := checkFn_ok (env := env169) env169ok (fuel := 200) (vcs := [⟨[(.le (.v 0) (.v 1)), (.le (.c (0)) (.v 0)), (.le (.v 0) (.c (20000000000000))), (.le (.c (0)) (.v 1)), (.le (.v 1) (.c (9223372036854775807)))], (.le (.v 0) (.v 0))⟩,
    ⟨[(.le (.v 0) (.v 1)), (.le (.c (0)) (.v 0)), (.le (.v 0) (.c (20000000000000))), (.le (.c (0)) (.v 1)), (.le (.v 1) (.c (9223372036854775807)))], (.le (.v 0) (.v 0))⟩]) (by kernel_rfl)
    (valids_cons (by intro ρ h; first | (simp only [holdsAll, Fm.holds, T.ev] at h ⊢; omega) | (simp [holdsAll, Fm.holds, T.ev] at h ⊢; done) | (simp [holdsAll, Fm.holds, T.ev] at h ⊢; omega))
    (valids_cons (by intro ρ h; first | (simp only [holdsAll, Fm.holds, T.ev] at h ⊢; omega) | (simp [holdsAll, Fm.holds, T.ev] at h ⊢; done) | (simp [holdsAll, Fm.holds, T.ev] at h ⊢; omega))
    (valids_nil)))
noncomputable def env156 : Env := { P := Tryz.prog, con := (156, con156) :: env169.con, inl := [167, 166, 165, 164, 168, 163, 127, 57, 161, 162, 48, 159, 130, 92, 178, 194, 195, 211, 225, 173, 185, 212, 210, 224, 191], ann := anns }
theorem env156ok : ConOK env156 := ConOK.cons fn156 env169ok
-- no contract: 128 (*pointcode/tags.decoder).element 
-- no contract: 60 pointcode/tags.First 
noncomputable def env60 : Env := { P := Tryz.prog, con := env156.con, inl := [60, 167, 166, 165, 164, 168, 163, 127, 57, 161, 162, 48, 159, 130, 92, 178, 194, 195, 211, 225, 173, 185, 212, 210, 224, 191], ann := anns }
theorem env60ok : ConOK env60 := fun g c h => env156ok g c h
noncomputable def con63 : Contract := conOf Tryz.prog 1099511627776 1099511627776 false ((Tryz.prog.funcs[63]?).getD default)
set_option maxRecDepth 100000 in
theorem fn63 : FnOK Tryz.prog 63 con63 := hand63
noncomputable def env63 : Env := { P := Tryz.prog, con := (63, con63) :: env60.con, inl := [60, 167, 166, 165, 164, 168, 163, 127, 57, 161, 162, 48, 159, 130, 92, 178, 194, 195, 211, 225, 173, 185, 212, 210, 224, 191], ann := anns }
theorem env63ok : ConOK env63 := ConOK.cons fn63 env60ok
-- no contract: 183 internal/abi.NoEscape 
-- no contract: 171 (*strings.Builder).copyCheck 
noncomputable def env171 : Env := { P := Tryz.prog, con := env63.con, inl := [171, 60, 167, 166, 165, 164, 168, 163, 127, 57, 161, 162, 48, 159, 130, 92, 178, 194, 195, 211, 225, 173, 185, 212, 210, 224, 191], ann := anns }
theorem env171ok : ConOK env171 := fun g c h => env63ok g c h
-- no contract: 137 (*strings.Builder).WriteByte 
noncomputable def env137 : Env := { P := Tryz.prog, con := env171.con, inl := [137, 171, 60, 167, 166, 165, 164, 168, 163, 127, 57, 161, 162, 48, 159, 130, 92, 178, 194, 195, 211, 225, 173, 185, 212, 210, 224, 191], ann := anns }
theorem env137ok : ConOK env137 := fun g c h => env171ok g c h
-- no contract: 138 (*strings.Builder).String 
noncomputable def env138 : Env := { P := Tryz.prog, con := env137.con, inl := [138, 137, 171, 60, 167, 166, 165, 164, 168, 163, 127, 57, 161, 162, 48, 159, 130, 92, 178, 194, 195, 211, 225, 173, 185, 212, 210, 224, 191], ann := anns }
theorem env138ok : ConOK env138 := fun g c h => env137ok g c h
noncomputable def con97 : Contract := conOf Tryz.prog 1099511627776 15 false ((Tryz.prog.funcs[97]?).getD default)
set_option maxRecDepth 100000 in
theorem fn97 : FnOK Tryz.prog 97 con97 := hand97
noncomputable def env97 : Env := { P := Tryz.prog, con := (97, con97) :: env138.con, inl := [138, 137, 171, 60, 167, 166, 165, 164, 168, 163, 127, 57, 161, 162, 48, 159, 130, 92, 178, 194, 195, 211, 225, 173, 185, 212, 210, 224, 191], ann := anns }
theorem env97ok : ConOK env97 := ConOK.cons fn97 env138ok
noncomputable def con76 : Contract := conOf Tryz.prog 1099511627776 1099511627776 false ((Tryz.prog.funcs[76]?).getD default)
theorem fn76 : FnOK Tryz.prog 76 con76 := checkFn_ok (env := env97) env97ok (fuel := 200) (vcs := [⟨[(.le (.v 0) (.v 1)), (.ne (.v 0) (.c (0))), (.lt (.c (1)) (.v 0)), (.le (.v 0) (.c (8))), (.lt (.v 8) (.add (.v 0) (.c (-1)))), (.le (.c (2)) (.v 0)), (.le (.v 0) (.c (8))), (.le (.c (0)) (.v 1)), (.le (.v 1) (.c (9223372036854775807))), (.le (.c (0)) (.v 8)), (.le (.v 8) (.c (6)))], (.le (.c (1)) (.sub (.add (.v 0) (.c (-1))) (.v 8)))⟩,
    ⟨[(.le (.v 0) (.v 1)), (.ne (.v 0) (.c (0))), (.lt (.c (1)) (.v 0)), (.le (.v 0) (.c (8))), (.lt (.v 8) (.add (.v 0) (.c (-1)))), (.le (.c (2)) (.v 0)), (.le (.v 0) (.c (8))), (.le (.c (0)) (.v 1)), (.le (.v 1) (.c (9223372036854775807))), (.le (.c (0)) (.v 8)), (.le (.v 8) (.c (6)))], (.lt (.sub (.add (.v 0) (.c (-1))) (.add (.v 8) (.c (1)))) (.sub (.add (.v 0) (.c (-1))) (.v 8)))⟩,
    ⟨[(.le (.v 0) (.v 1)), (.ne (.v 0) (.c (0))), (.lt (.c (1)) (.v 0)), (.le (.v 0) (.c (8))), (.lt (.v 7) (.add (.v 0) (.c (-1)))), (.le (.c (2)) (.v 0)), (.le (.v 0) (.c (8))), (.le (.c (0)) (.v 1)), (.le (.v 1) (.c (9223372036854775807))), (.le (.c (0)) (.v 7)), (.le (.v 7) (.c (6)))], (.le (.c (1)) (.sub (.add (.v 0) (.c (-1))) (.v 7)))⟩,
    ⟨[(.le (.v 0) (.v 1)), (.ne (.v 0) (.c (0))), (.lt (.c (1)) (.v 0)), (.le (.v 0) (.c (8))), (.lt (.v 7) (.add (.v 0) (.c (-1)))), (.le (.c (2)) (.v 0)), (.le (.v 0) (.c (8))), (.le (.c (0)) (.v 1)), (.le (.v 1) (.c (9223372036854775807))), (.le (.c (0)) (.v 7)), (.le (.v 7) (.c (6)))], (.lt (.sub (.add (.v 0) (.c (-1))) (.add (.v 7) (.c (1)))) (.sub (.add (.v 0) (.c (-1))) (.v 7)))⟩,
    ⟨[(.le (.v 0) (.v 1)), (.ne (.v 0) (.c (0))), (.lt (.c (1)) (.v 0)), (.le (.v 0) (.c (8))), (.lt (.v 7) (.add (.v 0) (.c (-1)))), (.le (.c (2)) (.v 0)), (.le (.v 0) (.c (8))), (.le (.c (0)) (.v 1)), (.le (.v 1) (.c (9223372036854775807))), (.le (.c (0)) (.v 7)), (.le (.v 7) (.c (6)))], (.le (.c (1)) (.sub (.add (.v 0) (.c (-1))) (.v 7)))⟩,
    ⟨[(.le (.v 0) (.v 1)), (.ne (.v 0) (.c (0))), (.lt (.c (1)) (.v 0)), (.le (.v 0) (.c (8))), (.lt (.v 7) (.add (.v 0) (.c (-1)))), (.le (.c (2)) (.v 0)), (.le (.v 0) (.c (8))), (.le (.c (0)) (.v 1)), (.le (.v 1) (.c (9223372036854775807))), (.le (.c (0)) (.v 7)), (.le (.v 7) (.c (6)))], (.lt (.sub (.add (.v 0) (.c (-1))) (.add (.v 7) (.c (1)))) (.sub (.add (.v 0) (.c (-1))) (.v 7)))⟩,
    ⟨[(.le (.v 0) (.v 1)), (.ne (.v 0) (.c (0))), (.lt (.c (1)) (.v 0)), (.le (.v 0) (.c (8))), (.lt (.v 6) (.add (.v 0) (.c (-1)))), (.le (.c (2)) (.v 0)), (.le (.v 0) (.c (8))), (.le (.c (0)) (.v 1)), (.le (.v 1) (.c (9223372036854775807))), (.le (.c (0)) (.v 6)), (.le (.v 6) (.c (6)))], (.le (.c (1)) (.sub (.add (.v 0) (.c (-1))) (.v 6)))⟩,
    ⟨[(.le (.v 0) (.v 1)), (.ne (.v 0) (.c (0))), (.lt (.c (1)) (.v 0)), (.le (.v 0) (.c (8))), (.lt (.v 6) (.add (.v 0) (.c (-1)))), (.le (.c (2)) (.v 0)), (.le (.v 0) (.c (8))), (.le (.c (0)) (.v 1)), (.le (.v 1) (.c (9223372036854775807))), (.le (.c (0)) (.v 6)), (.le (.v 6) (.c (6)))], (.lt (.sub (.add (.v 0) (.c (-1))) (.add (.v 6) (.c (1)))) (.sub (.add (.v 0) (.c (-1))) (.v 6)))⟩,
    ⟨[(.le (.v 0) (.v 1)), (.ne (.v 0) (.c (0))), (.le (.v 0) (.c (1))), (.le (.c (0)) (.v 0)), (.le (.v 0) (.c (1))), (.le (.c (0)) (.v 1)), (.le (.v 1) (.c (9223372036854775807)))], (.lt (.c (0)) (.v 0))⟩,
    ⟨[(.le (.v 0) (.v 1)), (.ne (.v 0) (.c (0))), (.le (.v 0) (.c (1))), (.le (.c (0)) (.v 0)), (.le (.v 0) (.c (1))), (.le (.c (0)) (.v 1)), (.le (.v 1) (.c (9223372036854775807)))], (.le (.c (1)) (.v 0))⟩]) (by kernel_rfl)
    (valids_cons (by intro ρ h; first | (simp only [holdsAll, Fm.holds, T.ev] at h ⊢; omega) | (simp [holdsAll, Fm.holds, T.ev] at h ⊢; done) | (simp [holdsAll, Fm.holds, T.ev] at h ⊢; omega))
    (valids_cons (by intro ρ h; first | (simp only [holdsAll, Fm.holds, T.ev] at h ⊢; omega) | (simp [holdsAll, Fm.holds, T.ev] at h ⊢; done) | (simp [holdsAll, Fm.holds, T.ev] at h ⊢; omega))
    (valids_cons (by intro ρ h; first | (simp only [holdsAll, Fm.holds, T.ev] at h ⊢; omega) | (simp [holdsAll, Fm.holds, T.ev] at h ⊢; done) | (simp [holdsAll, Fm.holds, T.ev] at h ⊢; omega))
    (valids_cons (by intro ρ h; first | (simp only [holdsAll, Fm.holds, T.ev] at h ⊢; omega) | (simp [holdsAll, Fm.holds, T.ev] at h ⊢; done) | (simp [holdsAll, Fm.holds, T.ev] at h ⊢; omega))
    (valids_cons (by intro ρ h; first | (simp only [holdsAll, Fm.holds, T.ev] at h ⊢; omega) | (simp [holdsAll, Fm.holds, T.ev] at h ⊢; done) | (simp [holdsAll, Fm.holds, T.ev] at h ⊢; omega))
    (valids_cons (by intro ρ h; first | (simp only [holdsAll, Fm.holds, T.ev] at h ⊢; omega) | (simp [holdsAll, Fm.holds, T.ev] at h ⊢; done) | (simp [holdsAll, Fm.holds, T.ev] at h ⊢; omega))
    (valids_cons (by intro ρ h; first | (simp only [holdsAll, Fm.holds, T.ev] at h ⊢; omega) | (simp [holdsAll, Fm.holds, T.ev] at h ⊢; done) | (simp [holdsAll, Fm.holds, T.ev] at h ⊢; omega))
    (valids_cons (by intro ρ h; first | (simp only [holdsAll, Fm.holds, T.ev] at h ⊢; omega) | (simp [holdsAll, Fm.holds, T.ev] at h ⊢; done) | (simp [holdsAll, Fm.holds, T.ev] at h ⊢; omega))
    (valids_cons (by intro ρ h; first | (simp only [holdsAll, Fm.holds, T.ev] at h ⊢; omega) | (simp [holdsAll, Fm.holds, T.ev] at h ⊢; done) | (simp [holdsAll, Fm.holds, T.ev] at h ⊢; omega))
    (valids_cons (by intro ρ h; first | (simp only [holdsAll, Fm.holds, T.ev] at h ⊢; omega) | (simp [holdsAll, Fm.holds, T.ev] at h ⊢; done) | (simp [holdsAll, Fm.holds, T.ev] at h ⊢; omega))
    (valids_nil)))))))))))
noncomputable def env76 : Env := { P := Tryz.prog, con := (76, con76) :: env97.con, inl := [138, 137, 171, 60, 167, 166, 165, 164, 168, 163, 127, 57, 161, 162, 48, 159, 130, 92, 178, 194, 195, 211, 225, 173, 185, 212, 210, 224, 191], ann := anns }
theorem env76ok : ConOK env76 := ConOK.cons fn76 env97ok
noncomputable def con98 : Contract := conOf Tryz.prog 1000000000 1000000000 false ((Tryz.prog.funcs[98]?).getD default)
theorem fn98 : FnOK Tryz.prog 98 con98 := checkFn_ok (env := env76) env76ok (fuel := 200) (vcs := [⟨[(.le (.v 0) (.v 1)), (.le (.v 2) (.v 3)), (.eq (.v 0) (.v 2)), (.lt (.v 5) (.v 0)), (.le (.c (1)) (.v 0)), (.le (.v 0) (.c (1000000000))), (.le (.c (0)) (.v 1)), (.le (.v 1) (.c (9223372036854775807))), (.le (.c (0)) (.v 2)), (.le (.v 2) (.c (1000000000))), (.le (.c (0)) (.v 3)), (.le (.v 3) (.c (9223372036854775807))), (.le (.c (0)) (.v 5)), (.le (.v 5) (.c (999999999)))], (.lt (.v 5) (.v 2))⟩,
    ⟨[(.le (.v 0) (.v 1)), (.le (.v 2) (.v 3)), (.eq (.v 0) (.v 2)), (.lt (.v 5) (.v 0)), (.le (.c (1)) (.v 0)), (.le (.v 0) (.c (1000000000))), (.le (.c (0)) (.v 1)), (.le (.v 1) (.c (9223372036854775807))), (.le (.c (0)) (.v 2)), (.le (.v 2) (.c (1000000000))), (.le (.c (0)) (.v 3)), (.le (.v 3) (.c (9223372036854775807))), (.le (.c (0)) (.v 5)), (.le (.v 5) (.c (999999999)))], (.le (.c (1)) (.sub (.v 0) (.v 5)))⟩,
    ⟨[(.le (.v 0) (.v 1)), (.le (.v 2) (.v 3)), (.eq (.v 0) (.v 2)), (.lt (.v 5) (.v 0)), (.le (.c (1)) (.v 0)), (.le (.v 0) (.c (1000000000))), (.le (.c (0)) (.v 1)), (.le (.v 1) (.c (9223372036854775807))), (.le (.c (0)) (.v 2)), (.le (.v 2) (.c (1000000000))), (.le (.c (0)) (.v 3)), (.le (.v 3) (.c (9223372036854775807))), (.le (.c (0)) (.v 5)), (.le (.v 5) (.c (999999999)))], (.lt (.sub (.v 0) (.add (.v 5) (.c (1)))) (.sub (.v 0) (.v 5)))⟩]) (by kernel_rfl)
    (valids_cons (by intro ρ h; first | (simp only [holdsAll, Fm.holds, T.ev] at h ⊢; omega) | (simp [holdsAll, Fm.holds, T.ev] at h ⊢; done) | (simp [holdsAll, Fm.holds, T.ev] at h ⊢; omega))
    (valids_cons (by intro ρ h; first | (simp only [holdsAll, Fm.holds, T.ev] at h ⊢; omega) | (simp [holdsAll, Fm.holds, T.ev] at h ⊢; done) | (simp [holdsAll, Fm.holds, T.ev] at h ⊢; omega))
    (valids_cons (by intro ρ h; first | (simp only [holdsAll, Fm.holds, T.ev] at h ⊢; omega) | (simp [holdsAll, Fm.holds, T.ev] at h ⊢; done) | (simp [holdsAll, Fm.holds, T.ev] at h ⊢; omega))
    (valids_nil))))
noncomputable def env98 : Env := { P := Tryz.prog, con := (98, con98) :: env76.con, inl := [138, 137, 171, 60, 167, 166, 165, 164, 168, 163, 127, 57, 161, 162, 48, 159, 130, 92, 178, 194, 195, 211, 225, 173, 185, 212, 210, 224, 191], ann := anns }
theorem env98ok : ConOK env98 := ConOK.cons fn98 env76ok
noncomputable def con14 : Contract := conOf Tryz.prog 2000 1099511627776 false ((Tryz.prog.funcs[14]?).getD default)
theorem fn14 : FnOK Tryz.prog 14 con14 := checkFn_ok (env := env98) env98ok (fuel := 200) (vcs := [⟨[(.le (.v 8) (.v 9)), (.lt (.v 13) (.v 8)), (.le (.c (1)) (.v 8)), (.le (.v 8) (.c (1099511627776))), (.le (.c (0)) (.v 9)), (.le (.v 9) (.c (9223372036854775807))), (.le (.c (0)) (.v 13)), (.le (.v 13) (.c (1099511627775)))], (.le (.c (1)) (.sub (.v 8) (.v 13)))⟩,
    ⟨[(.le (.v 8) (.v 9)), (.lt (.v 13) (.v 8)), (.le (.c (1)) (.v 8)), (.le (.v 8) (.c (1099511627776))), (.le (.c (0)) (.v 9)), (.le (.v 9) (.c (9223372036854775807))), (.le (.c (0)) (.v 13)), (.le (.v 13) (.c (1099511627775)))], (.lt (.sub (.v 8) (.add (.v 13) (.c (1)))) (.sub (.v 8) (.v 13)))⟩,
    ⟨[(.le (.v 8) (.v 9)), (.lt (.v 13) (.v 8)), (.le (.c (1)) (.v 8)), (.le (.v 8) (.c (1099511627776))), (.le (.c (0)) (.v 9)), (.le (.v 9) (.c (9223372036854775807))), (.le (.c (0)) (.v 13)), (.le (.v 13) (.c (1099511627775)))], (.le (.c (1)) (.sub (.v 8) (.v 13)))⟩,
    ⟨[(.le (.v 8) (.v 9)), (.lt (.v 13) (.v 8)), (.le (.c (1)) (.v 8)), (.le (.v 8) (.c (1099511627776))), (.le (.c (0)) (.v 9)), (.le (.v 9) (.c (9223372036854775807))), (.le (.c (0)) (.v 13)), (.le (.v 13) (.c (1099511627775)))], (.lt (.sub (.v 8) (.add (.v 13) (.c (1)))) (.sub (.v 8) (.v 13)))⟩,
    ⟨[(.le (.v 8) (.v 9)), (.lt (.v 13) (.v 8)), (.le (.c (1)) (.v 8)), (.le (.v 8) (.c (1099511627776))), (.le (.c (0)) (.v 9)), (.le (.v 9) (.c (9223372036854775807))), (.le (.c (0)) (.v 13)), (.le (.v 13) (.c (1099511627775)))], (.le (.c (1)) (.sub (.v 8) (.v 13)))⟩,
    ⟨[(.le (.v 8) (.v 9)), (.lt (.v 13) (.v 8)), (.le (.c (1)) (.v 8)), (.le (.v 8) (.c (1099511627776))), (.le (.c (0)) (.v 9)), (.le (.v 9) (.c (9223372036854775807))), (.le (.c (0)) (.v 13)), (.le (.v 13) (.c (1099511627775)))], (.lt (.sub (.v 8) (.add (.v 13) (.c (1)))) (.sub (.v 8) (.v 13)))⟩,
    ⟨[(.le (.v 8) (.v 9)), (.lt (.v 13) (.v 8)), (.le (.c (1)) (.v 8)), (.le (.v 8) (.c (1099511627776))), (.le (.c (0)) (.v 9)), (.le (.v 9) (.c (9223372036854775807))), (.le (.c (0)) (.v 13)), (.le (.v 13) (.c (1099511627775)))], (.le (.c (1)) (.sub (.v 8) (.v 13)))⟩,
    ⟨[(.le (.v 8) (.v 9)), (.lt (.v 13) (.v 8)), (.le (.c (1)) (.v 8)), (.le (.v 8) (.c (1099511627776))), (.le (.c (0)) (.v 9)), (.le (.v 9) (.c (9223372036854775807))), (.le (.c (0)) (.v 13)), (.le (.v 13) (.c (1099511627775)))], (.lt (.sub (.v 8) (.add (.v 13) (.c (1)))) (.sub (.v 8) (.v 13)))⟩,
    ⟨[(.le (.v 8) (.v 9)), (.lt (.v 13) (.v 8)), (.le (.c (1)) (.v 8)), (.le (.v 8) (.c (1099511627776))), (.le (.c (0)) (.v 9)), (.le (.v 9) (.c (9223372036854775807))), (.le (.c (0)) (.v 13)), (.le (.v 13) (.c (1099511627775)))], (.le (.c (1)) (.sub (.v 8) (.v 13)))⟩,
    ⟨[(.le (.v 8) (.v 9)), (.lt (.v 13) (.v 8)), (.le (.c (1)) (.v 8)), (.le (.v 8) (.c (1099511627776))), (.le (.c (0)) (.v 9)), (.le (.v 9) (.c (9223372036854775807))), (.le (.c (0)) (.v 13)), (.le (.v 13) (.c (1099511627775)))], (.lt (.sub (.v 8) (.add (.v 13) (.c (1)))) (.sub (.v 8) (.v 13)))⟩,
    ⟨[(.le (.v 8) (.v 9)), (.lt (.v 13) (.v 8)), (.le (.c (1)) (.v 8)), (.le (.v 8) (.c (1099511627776))), (.le (.c (0)) (.v 9)), (.le (.v 9) (.c (9223372036854775807))), (.le (.c (0)) (.v 13)), (.le (.v 13) (.c (1099511627775)))], (.le (.c (1)) (.sub (.v 8) (.v 13)))⟩,
    ⟨[(.le (.v 8) (.v 9)), (.lt (.v 13) (.v 8)), (.le (.c (1)) (.v 8)), (.le (.v 8) (.c (1099511627776))), (.le (.c (0)) (.v 9)), (.le (.v 9) (.c (9223372036854775807))), (.le (.c (0)) (.v 13)), (.le (.v 13) (.c (1099511627775)))], (.lt (.sub (.v 8) (.add (.v 13) (.c (1)))) (.sub (.v 8) (.v 13)))⟩,
    ⟨[(.le (.v 8) (.v 9)), (.lt (.v 13) (.v 8)), (.le (.c (1)) (.v 8)), (.le (.v 8) (.c (1099511627776))), (.le (.c (0)) (.v 9)), (.le (.v 9) (.c (9223372036854775807))), (.le (.c (0)) (.v 13)), (.le (.v 13) (.c (1099511627775)))], (.le (.c (1)) (.sub (.v 8) (.v 13)))⟩,
    ⟨[(.le (.v 8) (.v 9)), (.lt (.v 13) (.v 8)), (.le (.c (1)) (.v 8)), (.le (.v 8) (.c (1099511627776))), (.le (.c (0)) (.v 9)), (.le (.v 9) (.c (9223372036854775807))), (.le (.c (0)) (.v 13)), (.le (.v 13) (.c (1099511627775)))], (.lt (.sub (.v 8) (.add (.v 13) (.c (1)))) (.sub (.v 8) (.v 13)))⟩,
    ⟨[(.le (.v 8) (.v 9)), (.lt (.v 13) (.v 8)), (.le (.c (1)) (.v 8)), (.le (.v 8) (.c (1099511627776))), (.le (.c (0)) (.v 9)), (.le (.v 9) (.c (9223372036854775807))), (.le (.c (0)) (.v 13)), (.le (.v 13) (.c (1099511627775)))], (.le (.c (1)) (.sub (.v 8) (.v 13)))⟩,
    ⟨[(.le (.v 8) (.v 9)), (.lt (.v 13) (.v 8)), (.le (.c (1)) (.v 8)), (.le (.v 8) (.c (1099511627776))), (.le (.c (0)) (.v 9)), (.le (.v 9) (.c (9223372036854775807))), (.le (.c (0)) (.v 13)), (.le (.v 13) (.c (1099511627775)))], (.lt (.sub (.v 8) (.add (.v 13) (.c (1)))) (.sub (.v 8) (.v 13)))⟩]) (by kernel_rfl)
    (valids_cons (by intro ρ h; first | (simp only [holdsAll, Fm.holds, T.ev] at h ⊢; omega) | (simp [holdsAll, Fm.holds, T.ev] at h ⊢; done) | (simp [holdsAll, Fm.holds, T.ev] at h ⊢; omega))
    (valids_cons (by intro ρ h; first | (simp only [holdsAll, Fm.holds, T.ev] at h ⊢; omega) | (simp [holdsAll, Fm.holds, T.ev] at h ⊢; done) | (simp [holdsAll, Fm.holds, T.ev] at h ⊢; omega))
    (valids_cons (by intro ρ h; first | (simp only [holdsAll, Fm.holds, T.ev] at h ⊢; omega) | (simp [holdsAll, Fm.holds, T.ev] at h ⊢; done) | (simp [holdsAll, Fm.holds, T.ev] at h ⊢; omega))
    (valids_cons (by intro ρ h; first | (simp only [holdsAll, Fm.holds, T.ev] at h ⊢; omega) | (simp [holdsAll, Fm.holds, T.ev] at h ⊢; done) | (simp [holdsAll, Fm.holds, T.ev] at h ⊢; omega))
    (valids_cons (by intro ρ h; first | (simp only [holdsAll, Fm.holds, T.ev] at h ⊢; omega) | (simp [holdsAll, Fm.holds, T.ev] at h ⊢; done) | (simp [holdsAll, Fm.holds, T.ev] at h ⊢; omega))
    (valids_cons (by intro ρ h; first | (simp only [holdsAll, Fm.holds, T.ev] at h ⊢; omega) | (simp [holdsAll, Fm.holds, T.ev] at h ⊢; done) | (simp [holdsAll, Fm.holds, T.ev] at h ⊢; omega))
    (valids_cons (by intro ρ h; first | (simp only [holdsAll, Fm.holds, T.ev] at h ⊢; omega) | (simp [holdsAll, Fm.holds, T.ev] at h ⊢; done) | (simp [holdsAll, Fm.holds, T.ev] at h ⊢; omega))
    (valids_cons (by intro ρ h; first | (simp only [holdsAll, Fm.holds, T.ev] at h ⊢; omega) | (simp [holdsAll, Fm.holds, T.ev] at h ⊢; done) | (simp [holdsAll, Fm.holds, T.ev] at h ⊢; omega))
    (valids_cons (by intro ρ h; first | (simp only [holdsAll, Fm.holds, T.ev] at h ⊢; omega) | (simp [holdsAll, Fm.holds, T.ev] at h ⊢; done) | (simp [holdsAll, Fm.holds, T.ev] at h ⊢; omega))
    (valids_cons (by intro ρ h; first | (simp only [holdsAll, Fm.holds, T.ev] at h ⊢; omega) | (simp [holdsAll, Fm.holds, T.ev] at h ⊢; done) | (simp [holdsAll, Fm.holds, T.ev] at h ⊢; omega))
    (valids_cons (by intro ρ h; first | (simp only [holdsAll, Fm.holds, T.ev] at h ⊢; omega) | (simp [holdsAll, Fm.holds, T.ev] at h ⊢; done) | (simp [holdsAll, Fm.holds, T.ev] at h ⊢; omega))
    (valids_cons (by intro ρ h; first | (simp only [holdsAll, Fm.holds, T.ev] at h ⊢; omega) | (simp [holdsAll, Fm.holds, T.ev] at h ⊢; done) | (simp [holdsAll, Fm.holds, T.ev] at h ⊢; omega))
    (valids_cons (by intro ρ h; first | (simp only [holdsAll, Fm.holds, T.ev] at h ⊢; omega) | (simp [holdsAll, Fm.holds, T.ev] at h ⊢; done) | (simp [holdsAll, Fm.holds, T.ev] at h ⊢; omega))
    (valids_cons (by intro ρ h; first | (simp only [holdsAll, Fm.holds, T.ev] at h ⊢; omega) | (simp [holdsAll, Fm.holds, T.ev] at h ⊢; done) | (simp [holdsAll, Fm.holds, T.ev] at h ⊢; omega))
    (valids_cons (by intro ρ h; first | (simp only [holdsAll, Fm.holds, T.ev] at h ⊢; omega) | (simp [holdsAll, Fm.holds, T.ev] at h ⊢; done) | (simp [holdsAll, Fm.holds, T.ev] at h ⊢; omega))
    (valids_cons (by intro ρ h; first | (simp only [holdsAll, Fm.holds, T.ev] at h ⊢; omega) | (simp [holdsAll, Fm.holds, T.ev] at h ⊢; done) | (simp [holdsAll, Fm.holds, T.ev] at h ⊢; omega))
    (valids_nil)))))))))))))))))
noncomputable def env14 : Env := { P := Tryz.prog, con := (14, con14) :: env98.con, inl := [138, 137, 171, 60, 167, 166, 165, 164, 168, 163, 127, 57, 161, 162, 48, 159, 130, 92, 178, 194, 195, 211, 225, 173, 185, 212, 210, 224, 191], ann := anns }
theorem env14ok : ConOK env14 := ConOK.cons fn14 env98ok
noncomputable def con16 : Contract := conOf Tryz.prog 2000 2000 false ((Tryz.prog.funcs[16]?).getD default)
theorem fn16 : FnOK Tryz.prog 16 con16 := checkFn_ok (env := env14) env14ok (fuel := 200) (vcs := []) (by kernel_rfl)
    (valids_nil)
noncomputable def env16 : Env := { P := Tryz.prog, con := (16, con16) :: env14.con, inl := [138, 137, 171, 60, 167, 166, 165, 164, 168, 163, 127, 57, 161, 162, 48, 159, 130, 92, 178, 194, 195, 211, 225, 173, 185, 212, 210, 224, 191], ann := anns }
theorem env16ok : ConOK env16 := ConOK.cons fn16 env14ok
noncomputable def con101 : Contract := conOf Tryz.prog 2000 2000 true ((Tryz.prog.funcs[101]?).getD default)
theorem fn101 : FnOK Tryz.prog 101 con101 := checkFn_ok (env := env16) env16ok (fuel := 200) (vcs := []) (by kernel_rfl)
    (valids_nil)
noncomputable def env101 : Env := { P := Tryz.prog, con := (101, con101) :: env16.con, inl := [138, 137, 171, 60, 167, 166, 165, 164, 168, 163, 127, 57, 161, 162, 48, 159, 130, 92, 178, 194, 195, 211, 225, 173, 185, 212, 210, 224, 191], ann := anns }
theorem env101ok : ConOK env101 := ConOK.cons fn101 env16ok
noncomputable def con100 : Contract := conOfX Tryz.prog 20000000000000 20000000000000 [0] [] [] [(.eq (.v 2) (.v 0))] ((Tryz.prog.funcs[100]?).getD default)
theorem fn100 : FnOK Tryz.prog 100 con100 := checkFn_ok (env := env101) env101ok (fuel := 200) (vcs := [⟨[(.le (.v 0) (.v 1)), (.le (.c (0)) (.v 0)), (.le (.v 0) (.c (20000000000000))), (.le (.c (0)) (.v 1)), (.le (.v 1) (.c (9223372036854775807)))], (.le (.v 0) (.v 0))⟩,
    ⟨[(.le (.v 0) (.v 1)), (.le (.c (0)) (.v 0)), (.le (.v 0) (.c (20000000000000))), (.le (.c (0)) (.v 1)), (.le (.v 1) (.c (9223372036854775807)))], (.le (.v 0) (.v 0))⟩]) (by kernel_rfl)
    (valids_cons (by intro ρ h; first | (simp only [holdsAll, Fm.holds, T.ev] at h ⊢; omega) | (simp [holdsAll, Fm.holds, T.ev] at h ⊢; done) | (simp [holdsAll, Fm.holds, T.ev] at h ⊢; omega))
    (valids_cons (by intro ρ h; first | (simp only [holdsAll, Fm.holds, T.ev] at h ⊢; omega) | (simp [holdsAll, Fm.holds, T.ev] at h ⊢; done) | (simp [holdsAll, Fm.holds, T.ev] at h ⊢; omega))
    (valids_nil)))
noncomputable def env100 : Env := { P := Tryz.prog, con := (100, con100) :: env101.con, inl := [138, 137, 171, 60, 167, 166, 165, 164, 168, 163, 127, 57, 161, 162, 48, 159, 130, 92, 178, 194, 195, 211, 225, 173, 185, 212, 210, 224, 191], ann := anns }
theorem env100ok : ConOK env100 := ConOK.cons fn100 env101ok
noncomputable def con102 : Contract := conOfX Tryz.prog 1099511627776 1099511627776 [] [] [] [(.eq (.v 2) (.v 0))] ((Tryz.prog.funcs[102]?).getD default)
theorem fn102 : FnOK Tryz.prog 102 con102 := checkFn_ok (env := env100) env100ok (fuel := 200) (vcs := [⟨[(.le (.v 0) (.v 1)), (.or (.eq (.v 2) (.c (0))) (.eq (.v 0) (.c (0)))), (.eq (.v 2) (.c (1))), (.le (.c (0)) (.v 0)), (.le (.v 0) (.c (1099511627776))), (.le (.c (0)) (.v 1)), (.le (.v 1) (.c (9223372036854775807))), (.le (.c (1)) (.v 2)), (.le (.v 2) (.c (1)))], (.eq (.c (0)) (.v 0))⟩]) (by kernel_rfl)
    (valids_cons (by intro ρ h; first | (simp only [holdsAll, Fm.holds, T.ev] at h ⊢; omega) | (simp [holdsAll, Fm.holds, T.ev] at h ⊢; done) | (simp [holdsAll, Fm.holds, T.ev] at h ⊢; omega))
    (valids_nil))
noncomputable def env102 : Env := { P := Tryz.prog, con := (102, con102) :: env100.con, inl := [138, 137, 171, 60, 167, 166, 165, 164, 168, 163, 127, 57, 161, 162, 48, 159, 130, 92, 178, 194, 195, 211, 225, 173, 185, 212, 210, 224, 191], ann := anns }
theorem env102ok : ConOK env102 := ConOK.cons fn102 env100ok
noncomputable def con20 : Contract := conOf Tryz.prog 2000 65536 false ((Tryz.prog.funcs[20]?).getD default)
set_option maxRecDepth 100000 in
theorem fn20 : FnOK Tryz.prog 20 con20 := hand20 fn10 fn102
noncomputable def env20 : Env := { P := Tryz.prog, con := (20, con20) :: env102.con, inl := [138, 137, 171, 60, 167, 166, 165, 164, 168, 163, 127, 57, 161, 162, 48, 159, 130, 92, 178, 194, 195, 211, 225, 173, 185, 212, 210, 224, 191], ann := anns }
theorem env20ok : ConOK env20 := ConOK.cons fn20 env102ok
noncomputable def envL : Env := { P := Tryz.prog, con := env20.con, inl := [138, 137, 171, 60, 167, 166, 165, 164, 168, 163, 127, 57, 161, 162, 48, 159, 130, 92, 178, 194, 195, 211, 225, 173, 185, 212, 210, 224, 191], ann := anns, wa := true }
theorem envLok : ConOK envL := fun g c h => env20ok g c h
theorem call9 : CallOK Tryz.prog 3 9 2000 9 (.seq (.seq .str (.seq .str (.seq .str (.seq (.int .u16) (.seq (.int .u32) (.seq (.int .u16) .bool)))))) (.seq (.row 5 (.int .u8)) (.seq (.int .i64) (.row 140 (.seq (.int .u16) (.seq (.int .i64) (.row 5 (.int .u8)))))))) glL := by
  refine CallOK.one (env := envL) envLok (fuel := 200) (dr := (.row 5 (.int .u8))) (vcs := []) ?_ (valids_nil) (by decide) Tryz.func9 Tryz.ntmps9 rfl (by kernel_rfl) build1u build1s build1z rfl rfl clos11
  kernel_rfl
theorem call13 : CallOK Tryz.prog 3 9 2000 13 (.seq (.seq .str (.seq .str (.seq .str (.seq (.int .u16) (.seq (.int .u32) (.seq (.int .u16) .bool)))))) (.seq (.row 5 (.int .u8)) (.seq (.int .i64) (.row 140 (.seq (.int .u16) (.seq (.int .i64) (.row 5 (.int .u8)))))))) glL := by
  refine CallOK.nil (env := envL) envLok (fuel := 200) (vcs := []) ?_ (valids_nil) (by decide) Tryz.func13 Tryz.ntmps13 rfl (by kernel_rfl) rfl
  kernel_rfl
theorem call15 : CallOK Tryz.prog 3 9 2000 15 (.seq (.seq .str (.seq .str (.seq .str (.seq (.int .u16) (.seq (.int .u32) (.seq (.int .u16) .bool)))))) (.seq (.row 5 (.int .u8)) (.seq (.int .i64) (.row 140 (.seq (.int .u16) (.seq (.int .i64) (.row 5 (.int .u8)))))))) glL := by
  refine CallOK.one (env := envL) envLok (fuel := 200) (dr := (.seq .bool (.seq (.int .i64) (.seq (.row 5 (.int .u8)) (.row 140 (.seq (.int .u16) (.seq (.int .i64) (.row 5 (.int .u8))))))))) (vcs := []) ?_ (valids_nil) (by decide) Tryz.func15 Tryz.ntmps15 rfl (by kernel_rfl) build1u build1s build1z rfl rfl clos17
  kernel_rfl
theorem call19 : CallOK Tryz.prog 3 9 2000 19 (.seq (.seq .str (.seq .str (.seq .str (.seq (.int .u16) (.seq (.int .u32) (.seq (.int .u16) .bool)))))) (.seq (.row 5 (.int .u8)) (.seq (.int .i64) (.row 140 (.seq (.int .u16) (.seq (.int .i64) (.row 5 (.int .u8)))))))) glL := by
  refine CallOK.one (env := envL) envLok (fuel := 200) (dr := (.seq .bool (.seq (.int .i64) (.seq (.row 5 (.int .u8)) (.row 140 (.seq (.int .u16) (.seq (.int .i64) (.row 5 (.int .u8))))))))) (vcs := []) ?_ (valids_nil) (by decide) Tryz.func19 Tryz.ntmps19 rfl (by kernel_rfl) build1u build1s build1z rfl rfl clos21
  kernel_rfl

end Go.Sx
