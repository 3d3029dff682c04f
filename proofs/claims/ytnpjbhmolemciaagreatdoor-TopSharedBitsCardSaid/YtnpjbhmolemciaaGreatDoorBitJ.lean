/- Part BitJ of a proof: helper lemmas; no conditions. -/
import Derived.Test.YtnpjbhmolemciaaGreatDoorBitI

namespace Go.Sx
open Go Go.Proofs

noncomputable def cT72 : Contract := conOfX Tryz.prog 1000000 1000000 [] [] [] [(.eq (.v 2) (.v 0))] ((Tryz.prog.funcs[72]?).getD default)
noncomputable def cT68 : Contract := conOfX Tryz.prog 20000000000000 20000000000000 [0] [] [] [(.eq (.v 2) (.v 0))] ((Tryz.prog.funcs[68]?).getD default)
noncomputable def cT23 : Contract := conOf Tryz.prog 2000 2000 false ((Tryz.prog.funcs[23]?).getD default)

set_option maxRecDepth 100000 in
theorem clone72 (h72 : FnOK Tryz.prog 72 cT72) {χ : Chi} {w : World} {ao : Option Addr} {l c : Nat} (hinv : Inv Tryz.prog χ w) (h1 : l ≤ 1000000) (h2 : l ≤ c) (h3 : c ≤ CB) (hr : RowOK χ χ.A [.int .u8 0 255] ao c) :
    Calls Tryz.prog 72 #[.slice ao l c] w fun e w' => ∃ ao' c' χ', e = .returned (.slice ao' l c') ∧ w.grownBy w' none ∧ Ext 0 χ.shut χ' ∧ MemExt χ.shut w χ' w' ∧ Inv Tryz.prog χ' w' ∧ l ≤ c' ∧ c' ≤ CB ∧ RowOK χ' χ'.F [.int .u8 0 255] ao' c' := by
  have e1 : cT72.iv = [some (0, 1000000), some (0, 9223372036854775807)] := by kernel_rfl
  have e2 : cT72.params = [.pv (.one (.slice false (.base 5) (.v 0) (.v 1)))] := by kernel_rfl
  have e3 : cT72.pre = [.le (.v 0) (.v 1)] := by kernel_rfl
  have e5 : cT72.res = .pv (.one (.slice true (.base 5) (.v 2) (.v 3))) := by kernel_rfl
  have e6 : cT72.gl = [] := by kernel_rfl
  have e7 : cT72.nv = 2 := by simp [Contract.nv, e1]
  have e8 : cT72.post = [.le (.v 2) (.v 3), .eq (.v 2) (.v 0)] := by kernel_rfl
  have h3' := h3
  unfold CB at h3'
  have hi : ivOK (χ.withρ (fun i => if i = 0 then (l : Int) else (c : Int))).ρ 0 cT72.iv := by
    rw [e1]
    refine ⟨?_, ?_, trivial⟩
    · show (0 : Int) ≤ (if (0 : Nat) = 0 then (l : Int) else c) ∧ (if (0 : Nat) = 0 then (l : Int) else c) ≤ 1000000
      simp; omega
    · show (0 : Int) ≤ (if (1 : Nat) = 0 then (l : Int) else c) ∧ (if (1 : Nat) = 0 then (l : Int) else c) ≤ 9223372036854775807
      simp; omega
  refine (shut_call h72 (χ := χ.withρ (fun i => if i = 0 then (l : Int) else (c : Int))) (hinv.withρ _) ?_ hi ?_ e6).mono ?_
  · rw [e2]
    refine ⟨⟨ao, l, c, rfl, by simp [T.ev, Chi.withρ, Chi.shut], by simp [T.ev, Chi.withρ, Chi.shut], h2, h3, ?_⟩, trivial⟩
    simp only [SE.ev, tau5]
    exact hr
  · rw [e3]
    exact ⟨by simp [Fm.holds, T.ev, Chi.withρ]; omega, trivial⟩
  · rintro e w' ⟨v, χ', rfl, hg, hx, hm, hi', hv, _, hp⟩
    rw [e5] at hv
    rw [e8] at hp
    rw [e7] at hx
    obtain ⟨ao', l', c', rfl, p1, p2, p3, p4, p5⟩ := hv
    simp only [SE.ev, tau5] at p5
    obtain ⟨_, q2, _⟩ := hp
    simp only [Fm.holds, T.ev] at q2
    have q3 := hx.ρ 0 (by omega)
    simp only [Chi.shut, Chi.withρ, if_pos] at q3
    simp only [T.ev] at p1
    obtain rfl : l' = l := by omega
    exact ⟨ao', c', χ', rfl, hg, ⟨fun i hi => absurd hi (Nat.not_lt_zero i), hx.F, hx.A, hx.κ⟩, ⟨hm.os, hm.tape, hm.output, hm.size, hm.old, hm.Fn, hm.An⟩, hi', p3, p4, p5⟩

set_option maxRecDepth 100000 in
theorem clip68 (h68 : FnOK Tryz.prog 68 cT68) {χ : Chi} {w : World} {ao : Option Addr} {l c : Nat} (hinv : Inv Tryz.prog χ w) (h1 : l ≤ 20000000000000) (h2 : l ≤ c) (h3 : c ≤ CB) (hr : RowOK χ χ.F [.int .u8 0 255] ao c) :
    Calls Tryz.prog 68 #[.slice ao l c] w fun e w' => ∃ ao' c' χ', e = .returned (.slice ao' l c') ∧ Ext 0 χ χ' ∧ MemExt χ w χ' w' ∧ Inv Tryz.prog χ' w' ∧ l ≤ c' ∧ c' ≤ CB ∧ RowOK χ' χ'.F [.int .u8 0 255] ao' c' := by
  have e1 : cT68.iv = [some (0, 20000000000000), some (0, 9223372036854775807)] := by kernel_rfl
  have e2 : cT68.params = [.pv (.one (.slice true (.base 5) (.v 0) (.v 1)))] := by kernel_rfl
  have e3 : cT68.pre = [.le (.v 0) (.v 1)] := by kernel_rfl
  have e5 : cT68.res = .pv (.one (.slice true (.base 5) (.v 2) (.v 3))) := by kernel_rfl
  have e6 : cT68.gl = [] := by kernel_rfl
  have e7 : cT68.nv = 2 := by simp [Contract.nv, e1]
  have e8 : cT68.post = [.le (.v 2) (.v 3), .eq (.v 2) (.v 0)] := by kernel_rfl
  have h3' := h3
  unfold CB at h3'
  have hi : ivOK (χ.withρ (fun i => if i = 0 then (l : Int) else (c : Int))).ρ 0 cT68.iv := by
    rw [e1]
    refine ⟨?_, ?_, trivial⟩
    · show (0 : Int) ≤ (if (0 : Nat) = 0 then (l : Int) else c) ∧ (if (0 : Nat) = 0 then (l : Int) else c) ≤ 20000000000000
      simp; omega
    · show (0 : Int) ≤ (if (1 : Nat) = 0 then (l : Int) else c) ∧ (if (1 : Nat) = 0 then (l : Int) else c) ≤ 9223372036854775807
      simp; omega
  refine (h68 (χ.withρ (fun i => if i = 0 then (l : Int) else (c : Int))) w #[.slice ao l c] (hinv.withρ _) ?_ hi ?_ (by rw [e6]; exact fun _ h => nomatch h)).mono ?_
  · rw [e2]
    refine ⟨⟨ao, l, c, rfl, by simp [T.ev, Chi.withρ], by simp [T.ev, Chi.withρ], h2, h3, ?_⟩, trivial⟩
    simp only [SE.ev, tau5]
    exact hr
  · rw [e3]
    exact ⟨by simp [Fm.holds, T.ev, Chi.withρ]; omega, trivial⟩
  · rintro e w' ⟨v, χ', rfl, hx, hm, hi', hv, _, hp⟩
    rw [e5] at hv
    rw [e8] at hp
    rw [e7] at hx
    obtain ⟨ao', l', c', rfl, p1, p2, p3, p4, p5⟩ := hv
    simp only [SE.ev, tau5] at p5
    obtain ⟨_, q2, _⟩ := hp
    simp only [Fm.holds, T.ev] at q2
    have q3 := hx.ρ 0 (by omega)
    simp only [Chi.withρ, if_pos] at q3
    simp only [T.ev] at p1
    obtain rfl : l' = l := by omega
    exact ⟨ao', c', χ', rfl, ⟨fun i hi => absurd hi (Nat.not_lt_zero i), hx.F, hx.A, hx.κ⟩, ⟨hm.os, hm.tape, hm.output, hm.size, hm.old, hm.Fn, hm.An⟩, hi', p3, p4, p5⟩

/-- what Flip answers -/
def FlipPost (χ : Chi) (w : World) (e : Ending) (w' : World) : Prop :=
  ∃ (ao : Option Addr) (l c : Nat) (m : Int) (χ2 : Chi), l ≤ 2000 ∧ l ≤ c ∧ c ≤ CB ∧ -9223372036854775808 ≤ m ∧ m ≤ 9223372036854775807 ∧ e = .returned (.tuple #[.slice ao l c, .int .i64 m]) ∧ Ext 0 χ.shut χ2 ∧ w.grownBy w' none ∧ Inv Tryz.prog χ2 w' ∧ (∀ b, χ2.F b → w.heap.size ≤ b) ∧ (∀ b, χ2.A b → χ.A b ∨ w.heap.size ≤ b) ∧ RowOK χ2 χ2.F [.int .u8 0 255] ao c

theorem flipPost_none {χ : Chi} {w w' : World} {m : Int} (hinv : Inv Tryz.prog χ w) (hg : w.grownBy w' none) (h0 : -9223372036854775808 ≤ m) (h1 : m ≤ 9223372036854775807) : FlipPost χ w (.returned (.tuple #[.slice none 0 0, .int .i64 m])) w' :=
  ⟨none, 0, 0, m, χ.shut, by omega, by omega, by unfold CB; omega, h0, h1, rfl, Ext.refl 0 _, hg, (hinv.shut).same (fun b hb => hg.block b (hinv.lt hb) (by simp)), fun _ h => h.elim, fun _ h => .inl h, rfl⟩

theorem grown_shut {χ χ2 : Chi} {w0 w w' : World} (hg : w0.grownBy w none) (hm : MemExt χ w χ2 w') (hF : ∀ b, χ.F b → w0.heap.size ≤ b) : w0.grownBy w' none :=
  ⟨hm.os.trans hg.os, hm.tape.trans hg.tape, hm.output.trans hg.output, Nat.le_trans hg.size hm.size, fun k hk _ => (hm.old k (Nat.lt_of_lt_of_le hk hg.size) (fun h => by have := hF k h; omega)).trans (hg.block k hk (by simp))⟩

set_option maxRecDepth 100000 in
set_option maxHeartbeats 3200000 in
theorem flip23 (h9 : FnOK Tryz.prog 9 cT9) (h72 : FnOK Tryz.prog 72 cT72) (h68 : FnOK Tryz.prog 68 cT68) {χ : Chi} {w : World} {ao1 ao2 : Option Addr} {n1 c1 n2 c2 : Nat} (hinv : Inv Tryz.prog χ w) (hn1 : n1 ≤ 2000) (hn2 : n2 ≤ 2000)
    (hc1 : n1 ≤ c1) (hc2 : n2 ≤ c2) (hb1 : c1 ≤ CB) (r1 : RowOK χ χ.A [.int .u8 0 255] ao1 c1) (r2 : RowOK χ χ.A [.int .i64 (-9223372036854775808) 9223372036854775807] ao2 c2) :
    Calls Tryz.prog 23 #[.slice ao1 n1 c1, .slice ao2 n2 c2] w (FlipPost χ w) := by
  obtain ⟨x, hx⟩ := nums_read hinv r2 hc2
  have hg0 := grown_alloc w (.cells #[.slice ao1 n1 c1] 22)
  have hs0 := alloc_size w (.cells #[.slice ao1 n1 c1] 22)
  have hbx : (w.alloc (.cells #[.slice ao1 n1 c1] 22)).cell? ⟨w.heap.size, 0, none⟩ = some (.slice ao1 n1 c1) := by rw [cell?_blk (by rw [alloc_get, if_pos rfl])]; rfl
  have hinv0 := hinv.allocPlain (.cells #[.slice ao1 n1 c1] 22)
  have hchk := check9 h9 hinv0 hn1 hc1 hb1 r1
  have hcon : ∀ w', (w.alloc (.cells #[.slice ao1 n1 c1] 22)).grownBy w' none → Calls Tryz.prog 70 #[.slice ao2 n2 c2, .func (.func 71) #[] #[.pointer (some ⟨w.heap.size, 0, none⟩)]] w' fun e w'' => ∃ r : Bool, e = .returned (.bool r) ∧ w'.grownBy w'' none ∧ (r = false → ∀ i, i < n2 → flipOut n1 (x i) = false) := fun w' hg =>
    contains70 (by omega) (hx.grown (grown_trans hg0 hg)) (test71 (by have := hg.size; omega) (cell_grown hbx (by omega) hg))
  have hclo : ∀ w', w.grownBy w' none → Calls Tryz.prog 72 #[.slice ao1 n1 c1] w' fun e w'' => ∃ ao' c' χ', e = .returned (.slice ao' n1 c') ∧ w'.grownBy w'' none ∧ Ext 0 χ.shut χ' ∧ MemExt χ.shut w' χ' w'' ∧ Inv Tryz.prog χ' w'' ∧ n1 ≤ c' ∧ c' ≤ CB ∧ RowOK χ' χ'.F [.int .u8 0 255] ao' c' := fun w' hg =>
    clone72 h72 (hinv.same fun b hb => hg.block b (hinv.lt hb) (by simp)) (by omega) hc1 hb1 r1
  go_enter Tryz.func23, Tryz.ntmps23
  go_wp2_with fail
  generalize hw0 : w.alloc (.cells #[.slice ao1 n1 c1] 22) = w0 at *
  clear hw0
  go_at_call 9
  refine hchk.mono ?_
  clear hchk
  rintro e w1 ⟨m, hm0, hm1, rfl, hg1⟩
  have hgw1 := grown_trans hg0 hg1
  have hbx1 := cell_grown hbx (by omega) hg1
  go_wp2_with fail
  · go_ret2
    exact flipPost_none hinv hgw1 hm0 hm1
  have hm : (m != 0) = false := by assumption
  go_at_call 70
  refine (hcon _ hg1).mono ?_
  clear hcon
  rintro e w2 ⟨r, rfl, hg2, hall⟩
  have hgw2 := grown_trans hgw1 hg2
  have hbx2 := cell_grown hbx1 (by have := hg1.size; omega) hg2
  have HA := Lib.hid hall
  clear hall
  go_wp2_with fail
  · go_ret2
    exact flipPost_none hinv hgw2 (by omega) (by omega)
  go_at_call 72
  refine (hclo _ hgw2).mono ?_
  clear hclo
  rintro e w3 ⟨ao3, c3, χ3, rfl, hg3, hx3, hm3, hi3, q1, q2, q3⟩
  have hgw3 := grown_trans hgw2 hg3
  have hF3 : ∀ b, χ3.F b → w.heap.size ≤ b := fun b hb => by
    rcases hm3.Fn b hb with h | h
    · exact h.elim
    · exact Nat.le_trans hgw2.size h
  have hA3 : ∀ b, χ3.A b → χ.A b ∨ w.heap.size ≤ b := fun b hb => by
    rcases hm3.An b hb with h | h
    · exact .inl h
    · exact .inr (Nat.le_trans hgw2.size h)
  have hcl := clip68 h68 hi3 (by omega) q1 q2 q3
  go_wp2_with fail
  go_at_call 68
  refine hcl.mono ?_
  clear hcl q3
  rintro e w4 ⟨ao4, c4, χ4, rfl, hx4, hm4, hi4, q4, q5, q6⟩
  have hgw4 := grown_shut hgw3 hm4 hF3
  have hF4 : ∀ b, χ4.F b → w.heap.size ≤ b := fun b hb => by
    rcases hm4.Fn b hb with h | h
    · exact hF3 b h
    · exact Nat.le_trans hgw3.size h
  have hA4 : ∀ b, χ4.A b → χ.A b ∨ w.heap.size ≤ b := fun b hb => by
    rcases hm4.An b hb with h | h
    · exact hA3 b h
    · exact .inr (Nat.le_trans hgw3.size h)
  have hX := Ext.trans hx3 hx4
  have HR : RowKit.Hid (∀ wr, Inv Tryz.prog χ4 wr → ∀ i, i < n1 → ∃ b o, ao4 = some ⟨b, o, none⟩ ∧ χ4.F b ∧ χ4.κ b (o + i) = some (.int .u8 0 255) ∧ wr.frozen? ⟨b, o + i, none⟩ = false ∧ ∃ y : Int, wr.cell? ⟨b, o + i, none⟩ = some (.int .u8 y) ∧ 0 ≤ y ∧ y ≤ 255) := Lib.hid fun wr hwr i hi => by
    obtain ⟨b, o, e, h1, _, h2⟩ := frow_read hwr q6 q4 hi (by simp)
    obtain ⟨h3, h4, v, h5, y, rfl, h6, h7⟩ := h2 0 _ rfl
    simp only [List.length_cons, List.length_nil, Nat.zero_add, Nat.mul_one, Nat.add_zero] at h3 h4 h5
    exact ⟨b, o, e, h1, h3, h4, y, h5, h6, h7⟩
  have hall := HA.out (by assumption)
  have HX : RowKit.Hid (∀ i, i < n2 → 0 ≤ x i ∧ x i < (n1 : Int)) := Lib.hid fun i hi => by
    have := hall i hi
    simp [flipOut] at this
    omega
  clear HA hall hx3 hx4 hm3 hm4 hF3 hA3 q1 q2
  go_wp2_with fail
  go_loopg [23] n2 (fun k q wr => ∃ j : Nat, j + k = n2 ∧ q = .int .i64 j ∧ w.grownBy wr none ∧ Inv Tryz.prog χ4 wr)
  case atStart => exact ⟨0, by simp, rfl, hgw4, hi4⟩
  case round =>
    obtain ⟨j, hjk, rfl, hg, hinvr⟩ := hrel
    cases gk with
    | zero =>
      have hil : decide (j < n2) = false := by simp; omega
      obtain rfl : j = n2 := by omega
      clear hx
      go_wp2
      go_ret2
      exact ⟨ao4, n1, c4, 0, χ4, hn1, q4, q5, by omega, by omega, rfl, hX, hg, hinvr, hF4, hA4, q6⟩
    | succ k =>
      have hil : decide (j < n2) = true := by simp; omega
      have hlt : j < n2 := by omega
      have hi0 : (0 : Int) ≤ (j : Int) := by omega
      have hi1 : (j : Int) < (n2 : Int) := by omega
      have hi40 : (j : Int) ≤ 1099511627776 := by omega
      obtain ⟨b, o, rfl, hb, hx0, _, _⟩ := hx j hlt
      have hxj := cell_grown hx0 hb hg
      obtain ⟨hx1, hx2⟩ := HX.out j hlt
      obtain ⟨g, og, rfl, hFg, hκ, hfz, y, hy, hy0, hy1⟩ := HR.out wr hinvr (x j).toNat (by omega)
      clear hx hx0
      have hv : 0 ≤ bits BinOp.xor .u8 y 1 ∧ bits BinOp.xor .u8 y 1 ≤ 255 := wrap_range .u8 _
      obtain ⟨hI, hG⟩ := inv_setCell hinvr hFg hκ (v := .int .u8 (bits BinOp.xor .u8 y 1)) ⟨_, rfl, hv.1, hv.2⟩
      have hG2 := grown_above (v := .slice (some ⟨g, 0, none⟩) 0 0) hg hG (fun k hk => by cases hk; exact hF4 g hFg)
      have HI := Lib.hid hI
      have HG := Lib.hid hG2
      clear hI hG hG2 hv hκ
      go_wp2
      go_roundg k <;> first | omega | exact ⟨j + 1, by omega, by go_num, HG.out, HI.out⟩

set_option maxRecDepth 100000 in
theorem hand23 (h9 : FnOK Tryz.prog 9 cT9) (h72 : FnOK Tryz.prog 72 cT72) (h68 : FnOK Tryz.prog 68 cT68) : FnOK Tryz.prog 23 cT23 := by
  have e1 : cT23.iv = [some (0, 2000), some (0, 9223372036854775807), some (0, 2000), some (0, 9223372036854775807)] := by kernel_rfl
  have e2 : cT23.params = [.pv (.one (.slice false (.base 5) (.v 0) (.v 1))), .pv (.one (.slice false (.base 3) (.v 2) (.v 3)))] := by kernel_rfl
  have e4 : cT23.riv = [some (0, 2000), some (0, 9223372036854775807), some (-9223372036854775808, 9223372036854775807)] := by kernel_rfl
  have e5 : cT23.res = .tup [.one (.slice true (.base 5) (.v 4) (.v 5)), .one (.int .i64 (.v 6))] := by kernel_rfl
  have e6 : cT23.post = [.le (.v 4) (.v 5)] := by kernel_rfl
  have e7 : cT23.nv = 4 := by simp [Contract.nv, e1]
  intro χ w args hinv ha hi hp _
  rw [e2] at ha
  rw [e1] at hi
  obtain ⟨args⟩ := args
  match args, ha with
  | [a, b], ⟨ha, hb, _⟩ =>
    obtain ⟨ao, l, c, rfl, p1, p2, p3, p4, p5⟩ := ha
    obtain ⟨ao2, l2, c2, rfl, q1, q2, q3, q4, q5⟩ := hb
    simp only [T.ev] at p1 p2 q1 q2
    obtain ⟨i0, _, i2, _⟩ := hi
    simp only [SE.ev, tau5] at p5
    simp only [SE.ev, tau3] at q5
    have hl : l ≤ 2000 := by have := i0.2; omega
    have hl2 : l2 ≤ 2000 := by have : χ.ρ 2 ≤ 2000 := i2.2; omega
    refine (flip23 h9 h72 h68 hinv hl hl2 p3 q3 p4 p5 q5).mono ?_
    rintro e w' ⟨aor, lr, cr, m, χ2, g1, g2, g3, g4, g5, rfl, g6, g7, g8, g9, g10, g11⟩
    obtain ⟨k1, k2, k3⟩ := unshut hinv g6 g7 g8 g9 g10
    have k1' : Ext 4 χ ((χ.join χ2).withρ (rext χ.ρ 4 [(lr : Int), (cr : Int), m])) := ⟨fun i hi => by simp only [Chi.withρ]; exact rext_lt hi, k1.F, k1.A, k1.κ⟩
    have g3' := g3
    unfold CB at g3'
    refine ⟨_, _, rfl, by rw [e7]; exact k1', k2.withρ _, k3.withρ _, ?_, ?_, ?_⟩
    · rw [e5]
      refine ⟨_, rfl, ⟨aor, lr, cr, rfl, ?_, ?_, g2, g3, ?_⟩, ?_, trivial⟩
      · show (lr : Int) = rext χ.ρ 4 [(lr : Int), (cr : Int), m] 4
        simp [rext]
      · show (cr : Int) = rext χ.ρ 4 [(lr : Int), (cr : Int), m] 5
        simp [rext]
      · simp only [SE.ev, tau5]
        exact RowOK.monoS (fun _ h => .inr h) g11
      · show Value.int .i64 m = Value.int .i64 (rext χ.ρ 4 [(lr : Int), (cr : Int), m] 6)
        simp [rext]
    · rw [e4, e7]
      refine ⟨?_, ?_, ?_, trivial⟩
      · simp [rext, Chi.withρ]; omega
      · simp [rext, Chi.withρ]; omega
      · simp [rext, Chi.withρ]; omega
    · rw [e6]
      refine ⟨?_, trivial⟩
      simp [Fm.holds, T.ev, rext, Chi.withρ]; omega

end Go.Sx


