/- Part ThH of a proof: helper lemmas; no conditions. -/
import Derived.Test.YtnnaehcmchndmaaGreatDoorTxI

set_option linter.unusedSimpArgs false
set_option linter.unusedVariables false

namespace Go.Sx
open Go Go.Proofs

structure RdT (χ : Chi) (w : World) : Prop where
  inv : Inv Tryz.prog χ w
  gl : GlOK χ [(2, tabC)]
  e1 : ∃ u v, w.cell? ⟨4, 0, none⟩ = some (.iface u v)
  e2 : ∃ u v, w.cell? ⟨5, 0, none⟩ = some (.iface u v)
  mx : ∃ m, w.cell? ⟨3, 0, none⟩ = some (.int .i64 m)

theorem RdT.grown {χ : Chi} {w w' : World} (h : RdT χ w) (hg : w.grownBy w' none) : RdT χ w' := by
  obtain ⟨h1, h2, ⟨u1, v1, h3⟩, ⟨u2, v2, h4⟩, ⟨m, h5⟩⟩ := h
  have lt : ∀ {a : Nat} {v : Value}, w.cell? ⟨a, 0, none⟩ = some v → a < w.heap.size := fun {a v} h => World.block_lt_of_cell? w _ h
  exact ⟨h1.same fun b hb => hg.block b (h1.lt hb) (by simp), h2, ⟨u1, v1, cell_grown h3 (lt h3) hg⟩, ⟨u2, v2, cell_grown h4 (lt h4) hg⟩, ⟨m, cell_grown h5 (lt h5) hg⟩⟩

def SmallP (w : World) (e : Ending) (w' : World) : Prop := (∃ (n : Int) (b : Bool), e = .returned (.tuple #[.int .i64 n, .bool b])) ∧ w.grownBy w' none

set_option maxRecDepth 100000 in
set_option maxHeartbeats 1600000 in
theorem tsmall_any {χ : Chi} {w : World} {s : ByteArray} {lim : Int} (h : RdT χ w) (hs : s.size ≤ 1048576) : Calls Tryz.prog 294 #[.string s, .int .i64 lim] w (SmallP w) := by
  obtain ⟨u1, v1, e1⟩ := h.e1
  obtain ⟨u2, v2, e2⟩ := h.e2
  have hat := atoi_call (w := w) (s := s) (by omega) e1 e2
  go_enter Tryz.func294, Tryz.ntmps294
  go_wp2_with fail
  refine hat.mono ?_
  clear hat
  rintro e w2 ⟨⟨n, ev, rfl, n0, n1, hev⟩, g2⟩
  have h2 := h.grown g2
  have hit := itoa_call (z := n) h2.inv h2.gl n0 n1
  obtain ⟨q1, hq1⟩ : ∃ q, decide ((s.size : Int) ≤ 5) = q := ⟨_, rfl⟩
  obtain ⟨q2, hq2⟩ : ∃ q, decide (s.size ≤ 5) = q := ⟨_, rfl⟩
  have hq12 : q1 = q2 := by
    rw [← hq1, ← hq2]
    by_cases h : s.size ≤ 5
    · simp [h]; omega
    · simp [h]; omega
  subst hq12
  rcases hev with rfl | ⟨t, x, rfl⟩
  · cases q1 with
    | false =>
      go_wp2_with fail
      exact bodyPost_ret (v := .tuple #[.int .i64 n, .bool false]) (by simp [results, Tryz.results294, go_sem]) rfl ⟨⟨n, _, rfl⟩, g2⟩
    | true =>
      go_wp2_with fail
      refine hit.mono ?_
      clear hit
      rintro e w3 ⟨⟨z, -, rfl, hz⟩, g3⟩
      have g23 := grown_trans g2 g3
      obtain ⟨q3, hq3⟩ : ∃ q, (z.toList == s.toList) = q := ⟨_, rfl⟩
      obtain ⟨q4, hq4⟩ : ∃ q, decide (n ≤ lim) = q := ⟨_, rfl⟩
      obtain ⟨q5, hq5⟩ : ∃ q, decide (0 ≤ n) = q := ⟨_, rfl⟩
      cases q3 <;> cases q4
      all_goals
        go_wp2_with fail
        exact bodyPost_ret (v := .tuple #[.int .i64 n, .bool _]) (by simp [results, Tryz.results294, go_sem]; rfl) rfl ⟨⟨n, _, rfl⟩, g23⟩
  · go_wp2_with fail
    exact bodyPost_ret (v := .tuple #[.int .i64 n, .bool false]) (by simp [results, Tryz.results294, go_sem]) rfl ⟨⟨n, _, rfl⟩, g2⟩

def LineP (w : World) (e : Ending) (w' : World) : Prop := (∃ (r : RV) (b : Bool), e = .returned (.tuple #[.agg r.v, .bool b]) ∧ RVok r) ∧ w.grownBy w' none

theorem line_fin {w w6 : World} {x0 x1 x2 x3 x4 : Value} {r : RV} {b : Bool} {tm : Array Value} (hg : w.grownBy w6 none) (hR : w6.heap[w.heap.size]? = some (.cells #[x0, x1, x2, x3, x4] 324 (0, 0))) (hr : RVok r) (ht2 : tm[2]? = some (.pointer (some ⟨w.heap.size, 0, none⟩))) (ht3 : tm[3]? = some (.bool b)) :
    bodyPost Tryz.prog Tryz.f220 (LineP w) Exit.ret { tmps := tm, defers := [] } (((((w6.setCell ⟨w.heap.size, 0, none⟩ (.string r.p)).setCell ⟨w.heap.size, 1, none⟩ (.bool r.a)).setCell ⟨w.heap.size, 2, none⟩ (.string r.wi)).setCell ⟨w.heap.size, 3, none⟩ (.int .u16 r.pt)).setCell ⟨w.heap.size, 4, none⟩ (.int .u8 r.su)) := by
  rw [set5g hR]
  have hlt := lt_of_blk hR
  have hRf : (setBlk w6 w.heap.size (.cells #[.string r.p, .bool r.a, .string r.wi, .int .u16 r.pt, .int .u8 r.su] 324 (0, 0))).heap[w.heap.size]? = some (.cells #[.string r.p, .bool r.a, .string r.wi, .int .u16 r.pt, .int .u8 r.su] 324 (0, 0)) := by rw [setBlk_get hlt, if_pos rfl]
  have hg2 := grown_setBlkN hg (Nat.le_refl _) hlt (.cells #[.string r.p, .bool r.a, .string r.wi, .int .u16 r.pt, .int .u8 r.su] 324 (0, 0))
  generalize setBlk w6 w.heap.size (.cells #[.string r.p, .bool r.a, .string r.wi, .int .u16 r.pt, .int .u8 r.su] 324 (0, 0)) = wf at *
  have y0 : wf.cell? ⟨w.heap.size, 0, none⟩ = some (.string r.p) := by rw [cell?_blk hRf]; rfl
  have y1 : wf.cell? ⟨w.heap.size, 1, none⟩ = some (.bool r.a) := by rw [cell?_blk hRf]; rfl
  have y2 : wf.cell? ⟨w.heap.size, 2, none⟩ = some (.string r.wi) := by rw [cell?_blk hRf]; rfl
  have y3 : wf.cell? ⟨w.heap.size, 3, none⟩ = some (.int .u16 r.pt) := by rw [cell?_blk hRf]; rfl
  have y4 : wf.cell? ⟨w.heap.size, 4, none⟩ = some (.int .u8 r.su) := by rw [cell?_blk hRf]; rfl
  refine bodyPost_ret (v := .tuple #[.agg r.v, .bool b]) ?_ rfl ⟨⟨r, b, rfl, hr⟩, hg2⟩
  simp [results, Tryz.results220, go_sem, y0, y1, y2, y3, y4, ht2, ht3, RV.v]

abbrev ruleZ : Array Value := #[.string ⟨#[]⟩, .bool false, .string ⟨#[]⟩, .int .u16 0, .int .u8 0]

set_option maxRecDepth 100000 in
set_option maxHeartbeats 3200000 in
theorem tline_any {χ : Chi} {w : World} {s : ByteArray} (h : RdT χ w) (hs : s.size ≤ 1048576) : Calls Tryz.prog 220 #[.string s] w (LineP w) := by
  have g1 := grown_alloc w (.cells ruleZ 324)
  have hR1 : (w.alloc (.cells ruleZ 324)).heap[w.heap.size]? = some (.cells ruleZ 324 (0, 0)) := by rw [alloc_get, if_pos rfl]
  have fro : ∀ {wx : World}, wx.heap[w.heap.size]? = some (.cells ruleZ 324 (0, 0)) → (wx.frozen? ⟨w.heap.size, 0, none⟩ = false ∧ wx.frozen? ⟨w.heap.size, 1, none⟩ = false ∧ wx.frozen? ⟨w.heap.size, 2, none⟩ = false ∧ wx.frozen? ⟨w.heap.size, 3, none⟩ = false ∧ wx.frozen? ⟨w.heap.size, 4, none⟩ = false) ∧
      wx.cell? ⟨w.heap.size, 0, none⟩ = some (.string ⟨#[]⟩) ∧ wx.cell? ⟨w.heap.size, 1, none⟩ = some (.bool false) ∧ wx.cell? ⟨w.heap.size, 2, none⟩ = some (.string ⟨#[]⟩) ∧ wx.cell? ⟨w.heap.size, 3, none⟩ = some (.int .u16 0) ∧ wx.cell? ⟨w.heap.size, 4, none⟩ = some (.int .u8 0) := fun h =>
    ⟨⟨by rw [frozen?_blk h]; simp, by rw [frozen?_blk h]; simp, by rw [frozen?_blk h]; simp, by rw [frozen?_blk h]; simp, by rw [frozen?_blk h]; simp⟩, by rw [cell?_blk h]; rfl, by rw [cell?_blk h]; rfl, by rw [cell?_blk h]; rfl, by rw [cell?_blk h]; rfl, by rw [cell?_blk h]; rfl⟩
  have kp : ∀ {wx wy : World}, wx.heap[w.heap.size]? = some (.cells ruleZ 324 (0, 0)) → wx.grownBy wy none → wy.heap[w.heap.size]? = some (.cells ruleZ 324 (0, 0)) := fun h hg => (hg.block _ (lt_of_blk h) (by simp)).trans h
  have h1 := h.grown g1
  go_enter Tryz.func220, Tryz.ntmps220
  go_upto_region 1 with fail
  generalize w.alloc (.cells ruleZ 324) = w1 at *
  obtain ⟨m1, hm1⟩ := h1.mx
  have hc1 := cut_call (w := w1) (s := s) (sep := ⟨#[32, 61, 62, 32]⟩) hs (by decide) hm1
  go_wp2_with fail
  refine hc1.mono ?_
  clear hc1
  rintro e w2 ⟨⟨x, y, b, rfl, hx, hy, -⟩, g2⟩
  have g12 := grown_trans g1 g2
  have hR2 := kp hR1 g2
  have h2 := h1.grown g2
  cases b with
  | true =>
    go_wp2_with fail
    refine (tnumber_any (w := w2) (s := x) (by omega)).mono ?_
    rintro e w3 ⟨⟨p, b3, rfl, hp⟩, g3⟩
    have g13 := grown_trans g12 g3
    have hR3 := kp hR2 g3
    go_wp2_with fail
    refine (tnumber_any (w := w3) (s := y) (by omega)).mono ?_
    rintro e w4 ⟨⟨wi, b4, rfl, hwi⟩, g4⟩
    have g14 := grown_trans g13 g4
    have hR4 := kp hR3 g4
    obtain ⟨⟨f0, f1, f2, f3, f4⟩, c0, c1, c2, c3, c4⟩ := fro hR4
    cases b3
    all_goals
      go_wp2_with fail
      exact line_fin (r := ⟨p, true, wi, 0, 0⟩) g14 hR4 ⟨by dsimp only; omega, by dsimp only; omega, ⟨by dsimp only; omega, by dsimp only; omega⟩, ⟨by dsimp only; omega, by dsimp only; omega⟩⟩ rfl rfl
  | false =>
    obtain ⟨m2, hm2⟩ := h2.mx
    have hc2 := cut_call (w := w2) (s := s) (sep := ⟨#[32, 45, 62, 32]⟩) hs (by decide) hm2
    go_wp2_with fail
    refine hc2.mono ?_
    clear hc2
    rintro e w3 ⟨⟨x3, y3, b3, rfl, hx3, hy3, -⟩, g3⟩
    have g13 := grown_trans g12 g3
    have hR3 := kp hR2 g3
    have h3 := h2.grown g3
    obtain ⟨m3, hm3⟩ := h3.mx
    have hc3 := cut_call (w := w3) (s := y3) (sep := ⟨#[58]⟩) (by omega) (by decide) hm3
    go_wp2_with fail
    refine hc3.mono ?_
    clear hc3
    rintro e w4 ⟨⟨x4, y4, b4, rfl, hx4, hy4, -⟩, g4⟩
    have g14 := grown_trans g13 g4
    have hR4 := kp hR3 g4
    have h4 := h3.grown g4
    go_wp2_with fail
    refine (tnumber_any (w := w4) (s := x3) (by omega)).mono ?_
    rintro e w5 ⟨⟨p, b5, rfl, hp⟩, g5⟩
    have g15 := grown_trans g14 g5
    have hR5 := kp hR4 g5
    have h5 := h4.grown g5
    go_wp2_with fail
    refine (tsmall_any (s := x4) (lim := 65535) h5 (by omega)).mono ?_
    rintro e w6 ⟨⟨n6, b6, rfl⟩, g6⟩
    have g16 := grown_trans g15 g6
    have hR6 := kp hR5 g6
    have h6 := h5.grown g6
    go_wp2_with fail
    refine (tsmall_any (s := y4) (lim := 255) h6 (by omega)).mono ?_
    rintro e w7 ⟨⟨n7, b7, rfl⟩, g7⟩
    have g17 := grown_trans g16 g7
    have hR7 := kp hR6 g7
    obtain ⟨⟨f0, f1, f2, f3, f4⟩, c0, c1, c2, c3, c4⟩ := fro hR7
    have r6 := wrap_range .u16 n6
    have r7 := wrap_range .u8 n7
    cases b5 <;> cases b6
    all_goals
      go_wp2_with fail
      exact line_fin (r := ⟨p, false, ⟨#[]⟩, IntKind.u16.wrap n6, n7 % 256⟩) g17 hR7 ⟨by dsimp only; omega, Nat.zero_le _, r6, ⟨by dsimp only; omega, by dsimp only; omega⟩⟩ rfl rfl

end Go.Sx
