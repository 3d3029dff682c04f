/- Part ThE of a proof: helper lemmas; no conditions. -/
import Derived.Test.YtnnaehcmchndmaaGreatDoorThD

set_option linter.unusedSimpArgs false
set_option linter.unusedVariables false

namespace Go.Sx
open Go Go.Proofs

theorem tau9 : tau Tryz.prog (.base 9) = [.str] := by kernel_rfl

noncomputable def cTmatch : Contract := conOf Tryz.prog 1099511627776 10 false ((Tryz.prog.funcs[215]?).getD default)

set_option maxRecDepth 100000 in
theorem hand215 : FnOK Tryz.prog 215 cTmatch := by
  have e1 : cTmatch.iv = [some (0, 1099511627776), some (0, 9223372036854775807), some (0, 1099511627776)] := by kernel_rfl
  have e2 : cTmatch.params = [.pv (.one (.slice false (.base 324) (.v 0) (.v 1))), .pv (.one (.str (.v 2)))] := by kernel_rfl
  have e4 : cTmatch.riv = [some (-9223372036854775808, 9223372036854775807)] := by kernel_rfl
  have e5 : cTmatch.res = .pv (.one (.int .i64 (.v 3))) := by kernel_rfl
  have e6 : cTmatch.post = [] := by kernel_rfl
  have e7 : cTmatch.nv = 3 := by simp [Contract.nv, e1]
  refine fnOK_plain fun χ w args hinv ha hi hp => ?_
  rw [e2] at ha
  rw [e1] at hi
  obtain ⟨args⟩ := args
  match args, ha with
  | [a, a2], ⟨ha, ha2, _⟩ =>
    obtain ⟨ao, l, c, rfl, p1, p2, p3, p4, p5⟩ := ha
    obtain ⟨s, rfl, q1⟩ := ha2
    simp only [T.ev] at p1 p2 q1
    obtain ⟨i0, _, i2, _⟩ := hi
    simp only [SE.ev, tauRule] at p5
    obtain ⟨rs, hrs⟩ := rules_read hinv p5 p3
    have hl : l ≤ 1099511627776 := by have h : χ.ρ 0 ≤ 1099511627776 := i0.2; omega
    have hs : s.size ≤ 1099511627776 := by have h : χ.ρ 2 ≤ 1099511627776 := i2.2; omega
    refine (tmatch_any hl hrs hs).mono ?_
    rintro e w' ⟨⟨r, rfl, r0, r1, _⟩, hg⟩
    refine ⟨_, [r], rfl, hg, ?_, ?_, ?_⟩
    · rw [e5, e7]
      show Value.int .i64 r = Value.int .i64 (rext χ.ρ 3 [r] 3)
      simp [rext]
    · rw [e4, e7]
      refine ⟨?_, trivial⟩
      simp [rext]; omega
    · rw [e6]; trivial

theorem TraceP.unshut {χ : Chi} {w w' : World} {e : Ending} (hi : Inv Tryz.prog χ w) (h : TraceP χ.shut w e w') : TraceP χ w e w' := by
  obtain ⟨χ', ao, l, c, pt, su, r, rfl, h0, h1, h2, h3, h4, h5, h6, G⟩ := h
  have hg := grown_of_mem G.mem (fun _ h => h)
  have hFn : ∀ b, χ'.F b → w.heap.size ≤ b := fun b hb => by
    rcases G.mem.Fn b hb with h | h
    · exact h.elim
    · exact h
  obtain ⟨k1, k2, k3⟩ := Go.Sx.unshut hi G.ext hg G.inv hFn G.mem.An
  exact ⟨χ.join χ', ao, l, c, pt, su, r, rfl, h0, h1, h2, h3, h4, h5, RowOK.monoS (χ := χ') (fun _ h => .inr h) h6, ⟨k1, k2, k3⟩⟩

noncomputable def cTtrace : Contract := conOf Tryz.prog 1099511627776 10 false ((Tryz.prog.funcs[103]?).getD default)

set_option maxRecDepth 100000 in
theorem hand103 : FnOK Tryz.prog 103 cTtrace := by
  have e1 : cTtrace.iv = [some (0, 1099511627776), some (0, 9223372036854775807), some (0, 1099511627776)] := by kernel_rfl
  have e2 : cTtrace.params = [.pv (.one (.slice false (.base 324) (.v 0) (.v 1))), .pv (.one (.str (.v 2)))] := by kernel_rfl
  have e4 : cTtrace.riv = [some (0, 100), some (0, 9223372036854775807), some (0, 65535), some (0, 255), some (-9223372036854775808, 9223372036854775807)] := by kernel_rfl
  have e5 : cTtrace.res = .tup [.one (.slice true (.base 9) (.v 3) (.v 4)), .agg [.int .u16 (.v 5), .int .u8 (.v 6)], .one (.int .i64 (.v 7))] := by kernel_rfl
  have e6 : cTtrace.post = [.le (.v 3) (.v 4)] := by kernel_rfl
  have e7 : cTtrace.nv = 3 := by simp [Contract.nv, e1]
  intro χ w args hinv ha hi hp _
  rw [e2] at ha
  rw [e1] at hi
  obtain ⟨args⟩ := args
  match args, ha with
  | [a, a2], ⟨ha, ha2, _⟩ =>
    obtain ⟨ao, l, c, rfl, p1, p2, p3, p4, p5⟩ := ha
    obtain ⟨s, rfl, q1⟩ := ha2
    simp only [T.ev] at p1 p2 q1
    obtain ⟨i0, _, i2, _⟩ := hi
    simp only [SE.ev, tauRule] at p5
    obtain ⟨rs, hrs⟩ := rules_read hinv p5 p3
    have hl : l ≤ 1099511627776 := by have h : χ.ρ 0 ≤ 1099511627776 := i0.2; omega
    have hs : s.size ≤ 1099511627776 := by have h : χ.ρ 2 ≤ 1099511627776 := i2.2; omega
    refine (trace_any hinv.shut (fun _ h => h) hl hrs hs).mono ?_
    intro e w' hb
    obtain ⟨χ2, ao2, l2, c2, pt, su, r, rfl, t0, t1, t2, t3, t4, t5, t6, G⟩ := hb.unshut hinv
    rw [e7, e5, e4, e6]
    unfold CB at t5
    have k1 : Ext 3 χ (χ2.withρ (rext χ.ρ 3 [(l2 : Int), (c2 : Int), pt, su, r])) := ⟨fun i hi => by simp only [Chi.withρ]; exact rext_lt hi, G.ext.F, G.ext.A, G.ext.κ⟩
    have z0 : rext χ.ρ 3 [(l2 : Int), (c2 : Int), pt, su, r] 3 = l2 := by simp [rext]
    have z1 : rext χ.ρ 3 [(l2 : Int), (c2 : Int), pt, su, r] 4 = c2 := by simp [rext]
    have z2 : rext χ.ρ 3 [(l2 : Int), (c2 : Int), pt, su, r] 5 = pt := by simp [rext]
    have z3 : rext χ.ρ 3 [(l2 : Int), (c2 : Int), pt, su, r] 6 = su := by simp [rext]
    have z4 : rext χ.ρ 3 [(l2 : Int), (c2 : Int), pt, su, r] 7 = r := by simp [rext]
    refine ⟨_, _, rfl, k1, G.mem.withρ _, G.inv.withρ _, ?_, ?_, ?_⟩
    · refine ⟨_, rfl, ⟨ao2, l2, c2, rfl, z0.symm, z1.symm, t4, t5, by simp only [SE.ev, tau9]; exact t6⟩, ⟨_, rfl, ⟨?_, ?_, trivial⟩, ?_⟩, ?_, trivial⟩
      · show Value.int .u16 pt = Value.int .u16 (rext χ.ρ 3 [(l2 : Int), (c2 : Int), pt, su, r] 5)
        rw [z2]
      · show Value.int .u8 su = Value.int .u8 (rext χ.ρ 3 [(l2 : Int), (c2 : Int), pt, su, r] 6)
        rw [z3]
      · intro x hx
        simp only [List.mem_cons, List.not_mem_nil, or_false] at hx
        rcases hx with rfl | rfl <;> rfl
      · show Value.int .i64 r = Value.int .i64 (rext χ.ρ 3 [(l2 : Int), (c2 : Int), pt, su, r] 7)
        rw [z4]
    · refine ⟨?_, ?_, ?_, ?_, ?_, trivial⟩
      · show 0 ≤ rext χ.ρ 3 [(l2 : Int), (c2 : Int), pt, su, r] 3 ∧ rext χ.ρ 3 [(l2 : Int), (c2 : Int), pt, su, r] 3 ≤ 100
        rw [z0]; omega
      · show 0 ≤ rext χ.ρ 3 [(l2 : Int), (c2 : Int), pt, su, r] 4 ∧ rext χ.ρ 3 [(l2 : Int), (c2 : Int), pt, su, r] 4 ≤ 9223372036854775807
        rw [z1]; omega
      · show 0 ≤ rext χ.ρ 3 [(l2 : Int), (c2 : Int), pt, su, r] 5 ∧ rext χ.ρ 3 [(l2 : Int), (c2 : Int), pt, su, r] 5 ≤ 65535
        rw [z2]; exact t0
      · show 0 ≤ rext χ.ρ 3 [(l2 : Int), (c2 : Int), pt, su, r] 6 ∧ rext χ.ρ 3 [(l2 : Int), (c2 : Int), pt, su, r] 6 ≤ 255
        rw [z3]; exact t1
      · show -9223372036854775808 ≤ rext χ.ρ 3 [(l2 : Int), (c2 : Int), pt, su, r] 7 ∧ rext χ.ρ 3 [(l2 : Int), (c2 : Int), pt, su, r] 7 ≤ 9223372036854775807
        rw [z4]; omega
    · refine ⟨?_, trivial⟩
      show rext χ.ρ 3 [(l2 : Int), (c2 : Int), pt, su, r] 3 ≤ rext χ.ρ 3 [(l2 : Int), (c2 : Int), pt, su, r] 4
      rw [z0, z1]; omega

end Go.Sx
