/- Part TgH of a proof: helper lemmas; no conditions. -/
import Derived.Test.YtadhlkgjiccdpaaGreatDoorTgG
import Derived.Test.YtadhlkgjiccdpaaGreatDoorTgN

set_option linter.unusedSimpArgs false
set_option linter.unusedVariables false

namespace Go.Sx
open Go Go.Proofs

theorem treeAt_zero (χ : Chi) (w : World) : TreeAt χ w 16 1 0 ⟨0, 0, false, none, 0, 0, none, 0, 0⟩ :=
  ⟨⟨⟨by show (0 : Int) ≤ 0; omega, by show (0 : Int) ≤ 255; omega⟩, ⟨by show (0 : Int) ≤ 0; omega, by show (0 : Int) ≤ 4294967295; omega⟩, ⟨Nat.le_refl _, by show 0 ≤ LB; unfold LB; omega, by show 0 ≤ CB; unfold CB; omega⟩, rfl, ⟨Nat.le_refl _, by show 0 ≤ LB; unfold LB; omega, by show 0 ≤ CB; unfold CB; omega⟩, rfl⟩, fun _ => 0, fun _ => 0, fun _ => ⟨0, 0, false, none, 0, 0, none, 0, 0⟩, rfl, rfl, fun i hi => absurd hi (Nat.not_lt_zero i)⟩

def FirstPost2 (χ : Chi) (w : World) (e : Ending) (w' : World) : Prop :=
  ∃ (vc vt : Int) (vb : Bool) (a3 : Option Addr) (l3 c3 : Nat) (a4 : Option Addr) (l4 c4 : Nat) (χ' : Chi) (n r : Int), e = .returned (.tuple #[.agg #[.int .u8 vc, .int .u32 vt, .bool vb, .slice a3 l3 c3, .slice a4 l4 c4], .int .i64 n, .int .i64 r]) ∧
    -65536 ≤ n ∧ n ≤ 65536 ∧ -9223372036854775808 ≤ r ∧ r ≤ 9223372036854775807 ∧ TreeF χ' vc vt vb a3 l3 c3 a4 l4 c4 ∧ TGrows χ w χ' w' ∧ (r = 0 → ∃ n s, n ≤ 2000 ∧ s ≤ 65536 ∧ TreeAt χ' w' 16 n s ⟨vc, vt, vb, a3, l3, c3, a4, l4, c4⟩)

set_option maxRecDepth 100000 in
set_option maxHeartbeats 3200000 in
theorem first2_any {χ : Chi} {w : World} {ao : Option Addr} {l c : Nat} (hi : Inv Tryz.prog χ w) (hl : l ≤ 1099511627776) (hlc : l ≤ c) (hcc : c ≤ CB) (hr : RowOK χ χ.A oct ao c) : Calls Tryz.prog 60 #[.slice ao l c] w (FirstPost2 χ w) := by
  have hmf : ∀ (fn : Fn) (first cap : Array Value) (w : World), (Instr.makeFunc fn first cap).run Tryz.prog w = .ok (.func fn first cap) w := fun _ _ _ _ => rfl
  have g1 := grown_alloc w (.cells #[.int .u8 0, .int .u32 0, .bool false, .slice none 0 0, .slice none 0 0] 61)
  have hE1 : (w.alloc (.cells #[.int .u8 0, .int .u32 0, .bool false, .slice none 0 0, .slice none 0 0] 61)).heap[w.heap.size]? = some (.cells #[.int .u8 0, .int .u32 0, .bool false, .slice none 0 0, .slice none 0 0] 61 (0, 0)) := by rw [alloc_get, if_pos rfl]
  have s1 := alloc_size w (.cells #[.int .u8 0, .int .u32 0, .bool false, .slice none 0 0, .slice none 0 0] 61)
  generalize hw1 : w.alloc (.cells #[.int .u8 0, .int .u32 0, .bool false, .slice none 0 0, .slice none 0 0] 61) = w1 at *
  have g2 := grown_alloc w1 (.cells #[.int .i64 0] 3)
  have hN2 : (w1.alloc (.cells #[.int .i64 0] 3)).heap[w1.heap.size]? = some (.cells #[.int .i64 0] 3 (0, 0)) := by rw [alloc_get, if_pos rfl]
  have s2 := alloc_size w1 (.cells #[.int .i64 0] 3)
  generalize hw2 : w1.alloc (.cells #[.int .i64 0] 3) = w2 at *
  have g3 := grown_alloc w2 (.cells #[.int .i64 0] 36)
  have hR3 : (w2.alloc (.cells #[.int .i64 0] 36)).heap[w2.heap.size]? = some (.cells #[.int .i64 0] 36 (0, 0)) := by rw [alloc_get, if_pos rfl]
  have s3 := alloc_size w2 (.cells #[.int .i64 0] 36)
  generalize hw3 : w2.alloc (.cells #[.int .i64 0] 36) = w3 at *
  have hER : w.heap.size ≠ w.heap.size + 1 + 1 := by omega
  have hEN : w.heap.size ≠ w.heap.size + 1 := by omega
  have hNR : w.heap.size + 1 ≠ w.heap.size + 1 + 1 := by omega
  rw [s2, s1] at hR3
  rw [s1] at hN2
  by_cases hbig : l ≤ 65536
  · have g4 := grown_alloc w3 (.cells #[.slice ao l c, .int .i64 0] 187)
    have hD4 : (w3.alloc (.cells #[.slice ao l c, .int .i64 0] 187)).heap[w3.heap.size]? = some (.cells #[.slice ao l c, .int .i64 0] 187 (0, 0)) := by rw [alloc_get, if_pos rfl]
    have s4 := alloc_size w3 (.cells #[.slice ao l c, .int .i64 0] 187)
    have hgw := grown_trans (grown_trans (grown_trans g1 g2) g3) g4
    have hE4 := (g4.block _ (by omega) (by simp)).trans ((g3.block _ (by omega) (by simp)).trans ((g2.block _ (by omega) (by simp)).trans hE1))
    have hN4 := (g4.block _ (by omega) (by simp)).trans ((g3.block _ (by omega) (by simp)).trans hN2)
    have hR4 := (g4.block _ (by omega) (by simp)).trans hR3
    rw [s3, s2, s1] at hD4
    have hk4 : ∀ b, χ.A b → (w3.alloc (.cells #[.slice ao l c, .int .i64 0] 187)).heap[b]? = w.heap[b]? := fun b hb => hgw.block b (hi.lt hb) (by simp)
    have hnew : ∀ {b}, w.heap.size ≤ b → ¬ χ.A b := fun h hb => by have := hi.lt hb; omega
    have hd4 : Dec χ (w3.alloc (.cells #[.slice ao l c, .int .i64 0] 187)) (w.heap.size + 1 + 1 + 1) ao l c 0 := ⟨hi.same hk4, hnew (by omega), hD4, hlc, hcc, hbig, by omega, hr⟩
    have hel := element2_any 16 1 rfl hd4
    have hil : decide (65536 < l) = false := by simp; omega
    have hil2 : decide ((65536 : Int) < (l : Int)) = false := by simp; omega
    go_enter_defers Tryz.func60, Tryz.ntmps60
    go_wp2_with fail
    generalize w3.alloc (.cells #[.slice ao l c, .int .i64 0] 187) = w4 at *
    refine hel.mono ?_
    clear hel
    have fin : ∀ {χ5 : Chi} {w5 w6 : World} {n r : Int} {cs : Array Value}, NewD (w.heap.size + 1 + 1 + 1) χ w4 χ5 w5 → Inv Tryz.prog χ5 w5 → (∀ {b}, w.heap.size ≤ b → b < w4.heap.size → ¬ χ5.A b) → Wrote w.heap.size (w.heap.size + 1) (w.heap.size + 1 + 1) cs n r w5 w6 → TGrows χ w χ5 w6 := by
      intro χ5 w5 w6 n r cs hs hi5 hn hW
      refine ⟨hs.ext, ⟨hW.os.trans (hs.g.os.trans hgw.os), hW.tape.trans (hs.g.tape.trans hgw.tape), hW.output.trans (hs.g.output.trans hgw.output), by have := hs.g.size; have := hW.size; omega, fun b hb hF => ?_, fun b hb => ?_, fun b hb => ?_⟩, hi5.same fun b hb => ?_⟩
      · exact (hW.same b (by omega) (by omega) (by omega)).trans ((hs.g.block b (by omega) (by intro e; cases e; omega)).trans (hgw.block b hb (by simp)))
      · rcases hs.Fn b hb with h | h
        · exact .inl h
        · exact .inr (by omega)
      · rcases hs.An b hb with h | h
        · exact .inl h
        · exact .inr (by omega)
      · exact hW.same b (fun e => hn (by omega) (by omega) (e ▸ hb)) (fun e => hn (by omega) (by omega) (e ▸ hb)) (fun e => hn (by omega) (by omega) (e ▸ hb))
    rintro e w5 (⟨χ5, ⟨vc, vt, vb, ao3, l3, c3, ao4, l4, c4⟩, n, s, ao', l', c', cnt', rfl, hT, hTr, hd, hl', hcn, hs⟩ | ⟨hR, χ5, hs, hi5, hnD⟩)
    · unfold TN.agg
      dsimp only at *
      have hcn2 := hd.cn
      obtain ⟨hE5, hnE⟩ := hs.keep hE4 (by omega) (hnew (by omega))
      obtain ⟨hN5, hnN⟩ := hs.keep hN4 (by omega) (hnew (by omega))
      obtain ⟨hR5, hnR⟩ := hs.keep hR4 (by omega) (hnew (by omega))
      have f : ∀ {b : Nat} {cs : Array Value} {T : TypeId} (h : w5.heap[b]? = some (.cells cs T (0, 0))) (i : Nat), w5.frozen? ⟨b, i, none⟩ = false := fun h i => by rw [frozen?_blk h]; simp
      have m0 : w5.cell? ⟨w.heap.size, 0, none⟩ = some (.int .u8 0) := by rw [cell?_blk hE5]; rfl
      have m1 : w5.cell? ⟨w.heap.size, 1, none⟩ = some (.int .u32 0) := by rw [cell?_blk hE5]; rfl
      have m2 : w5.cell? ⟨w.heap.size, 2, none⟩ = some (.bool false) := by rw [cell?_blk hE5]; rfl
      have m3 : w5.cell? ⟨w.heap.size, 3, none⟩ = some (.slice none 0 0) := by rw [cell?_blk hE5]; rfl
      have m4 : w5.cell? ⟨w.heap.size, 4, none⟩ = some (.slice none 0 0) := by rw [cell?_blk hE5]; rfl
      have f0 := f hE5 0
      have f1 := f hE5 1
      have f2 := f hE5 2
      have f3 := f hE5 3
      have f4 := f hE5 4
      clear f
      go_upto_region 6 with fail
      rw [set5 hE5]
      clear m0 m1 m2 m3 m4 f0 f1 f2 f3 f4
      have hlE := lt_of_blk hE5
      have hE6 : (setBlk w5 w.heap.size (.cells #[.int .u8 vc, .int .u32 vt, .bool vb, .slice ao3 l3 c3, .slice ao4 l4 c4] 61 (0, 0))).heap[w.heap.size]? = some (.cells #[.int .u8 vc, .int .u32 vt, .bool vb, .slice ao3 l3 c3, .slice ao4 l4 c4] 61 (0, 0)) := by rw [setBlk_get hlE, if_pos rfl]
      have hN6 : (setBlk w5 w.heap.size (.cells #[.int .u8 vc, .int .u32 vt, .bool vb, .slice ao3 l3 c3, .slice ao4 l4 c4] 61 (0, 0))).heap[w.heap.size + 1]? = some (.cells #[.int .i64 0] 3 (0, 0)) := by rw [setBlk_get hlE, if_neg (by omega)]; exact hN5
      have hR6 : (setBlk w5 w.heap.size (.cells #[.int .u8 vc, .int .u32 vt, .bool vb, .slice ao3 l3 c3, .slice ao4 l4 c4] 61 (0, 0))).heap[w.heap.size + 1 + 1]? = some (.cells #[.int .i64 0] 36 (0, 0)) := by rw [setBlk_get hlE, if_neg (by omega)]; exact hR5
      have hD6 := hd.setOther hE5 (by omega) hnE (.cells #[.int .u8 vc, .int .u32 vt, .bool vb, .slice ao3 l3 c3, .slice ao4 l4 c4] 61 (0, 0))
      have hpre : ∀ {cs : Array Value} {n r : Int} {w7 : World}, Wrote w.heap.size (w.heap.size + 1) (w.heap.size + 1 + 1) cs n r (setBlk w5 w.heap.size (.cells #[.int .u8 vc, .int .u32 vt, .bool vb, .slice ao3 l3 c3, .slice ao4 l4 c4] 61 (0, 0))) w7 → Wrote w.heap.size (w.heap.size + 1) (w.heap.size + 1 + 1) cs n r w5 w7 := fun h => ⟨h.os, h.tape, h.output, h.size.trans (setBlk_size ..), fun b e1 e2 e3 => (h.same b e1 e2 e3).trans (by rw [setBlk_get hlE, if_neg e1]), h.atE, h.atN, h.atR⟩
      generalize setBlk w5 w.heap.size (.cells #[.int .u8 vc, .int .u32 vt, .bool vb, .slice ao3 l3 c3, .slice ao4 l4 c4] 61 (0, 0)) = w6 at *
      have q0 := hD6.c0
      have f : ∀ {b : Nat} {cs : Array Value} {T : TypeId} (h : w6.heap[b]? = some (.cells cs T (0, 0))) (i : Nat), w6.frozen? ⟨b, i, none⟩ = false := fun h i => by rw [frozen?_blk h]; simp
      have m0 : w6.cell? ⟨w.heap.size, 0, none⟩ = some (.int .u8 vc) := by rw [cell?_blk hE6]; rfl
      have m1 : w6.cell? ⟨w.heap.size, 1, none⟩ = some (.int .u32 vt) := by rw [cell?_blk hE6]; rfl
      have m2 : w6.cell? ⟨w.heap.size, 2, none⟩ = some (.bool vb) := by rw [cell?_blk hE6]; rfl
      have m3 : w6.cell? ⟨w.heap.size, 3, none⟩ = some (.slice ao3 l3 c3) := by rw [cell?_blk hE6]; rfl
      have m4 : w6.cell? ⟨w.heap.size, 4, none⟩ = some (.slice ao4 l4 c4) := by rw [cell?_blk hE6]; rfl
      have m5 : w6.cell? ⟨w.heap.size + 1, 0, none⟩ = some (.int .i64 0) := by rw [cell?_blk hN6]; rfl
      have m6 : w6.cell? ⟨w.heap.size + 1 + 1, 0, none⟩ = some (.int .i64 0) := by rw [cell?_blk hR6]; rfl
      have f0 := f hE6 0
      have f1 := f hE6 1
      have f2 := f hE6 2
      have f3 := f hE6 3
      have f4 := f hE6 4
      have f5 := f hN6 0
      have f6 := f hR6 0
      clear f hE5 hN5 hR5
      have hn5 : ∀ {b}, w.heap.size ≤ b → b < w4.heap.size → ¬ χ5.A b := fun {b} h h2 => by
        rcases (by omega : b = w.heap.size ∨ b = w.heap.size + 1 ∨ b = w.heap.size + 1 + 1 ∨ b = w.heap.size + 1 + 1 + 1) with rfl | rfl | rfl | rfl
        · exact hnE
        · exact hnN
        · exact hnR
        · exact hD6.nA
      have hll := hD6.ll
      have hW := Lib.hid (hpre (wrote_mk (a0 := .int .u8 vc) (a1 := .int .u32 vt) (a2 := .bool vb) (a3 := .slice ao3 l3 c3) (a4 := .slice ao4 l4 c4) (n := (l : Int) - (l' : Int)) (r := 0) hE6 hN6 hR6 hEN hER hNR))
      clear hpre hE6 hN6 hR6
      go_region
      clear q0 m0 m1 m2 m3 m4 m5 m6 f0 f1 f2 f3 f4 f5 f6
      generalize (((((((w6.setCell ⟨w.heap.size, 0, none⟩ (.int .u8 vc)).setCell ⟨w.heap.size, 1, none⟩ (.int .u32 vt)).setCell ⟨w.heap.size, 2, none⟩ (.bool vb)).setCell ⟨w.heap.size, 3, none⟩ (.slice ao3 l3 c3)).setCell ⟨w.heap.size, 4, none⟩ (.slice ao4 l4 c4)).setCell ⟨w.heap.size + 1, 0, none⟩ (.int .i64 ((l : Int) - (l' : Int)))).setCell ⟨w.heap.size + 1 + 1, 0, none⟩ (.int .i64 0)) = w7 at *
      have hW7 : Wrote w.heap.size (w.heap.size + 1) (w.heap.size + 1 + 1) #[.int .u8 vc, .int .u32 vt, .bool vb, .slice ao3 l3 c3, .slice ao4 l4 c4] ((l : Int) - (l' : Int)) 0 w5 w7.drew := ⟨hW.out.os, hW.out.tape, hW.out.output, hW.out.size, hW.out.same, hW.out.atE, hW.out.atN, hW.out.atR⟩
      generalize w7.drew = w8 at *
      have hG := fin hs hd.inv hn5 hW7
      go_wp2
      refine leaves_cons (f := 127) (args := #[.pointer (some ⟨w.heap.size, 0, none⟩), .pointer (some ⟨w.heap.size + 1, 0, none⟩), .pointer (some ⟨w.heap.size + 1 + 1, 0, none⟩)]) (by simp) (by simp [go_sem]) ?_
      refine first1_idle.mono ?_
      rintro e u' w9 ⟨rfl, rfl, rfl⟩
      have hEc := hW7.atE
      have m0 : w9.cell? ⟨w.heap.size, 0, none⟩ = some (.int .u8 vc) := by rw [cell?_blk hEc]; rfl
      have m1 : w9.cell? ⟨w.heap.size, 1, none⟩ = some (.int .u32 vt) := by rw [cell?_blk hEc]; rfl
      have m2 : w9.cell? ⟨w.heap.size, 2, none⟩ = some (.bool vb) := by rw [cell?_blk hEc]; rfl
      have m3 : w9.cell? ⟨w.heap.size, 3, none⟩ = some (.slice ao3 l3 c3) := by rw [cell?_blk hEc]; rfl
      have m4 : w9.cell? ⟨w.heap.size, 4, none⟩ = some (.slice ao4 l4 c4) := by rw [cell?_blk hEc]; rfl
      have m5 : w9.cell? ⟨w.heap.size + 1, 0, none⟩ = some (.int .i64 ((l : Int) - (l' : Int))) := by rw [cell?_blk hW7.atN]; rfl
      have m6 : w9.cell? ⟨w.heap.size + 1 + 1, 0, none⟩ = some (.int .i64 0) := by rw [cell?_blk hW7.atR]; rfl
      clear hEc
      simp [Leaves, settle, results, Tryz.results60, go_sem, m0, m1, m2, m3, m4, m5, m6]
      refine ⟨vc, vt, vb, ao3, l3, c3, ao4, l4, c4, χ5, (l : Int) - (l' : Int), 0, rfl, by omega, by omega, by omega, by omega, hT, hG, fun _ => ⟨n, s, by omega, by omega, hTr.same (Ext.refl 0 χ5) fun b hb => hW7.same b (fun e => ?_) (fun e => ?_) (fun e => ?_)⟩⟩
      · rw [e] at hb; exact hnE hb
      · rw [e] at hb; exact hnN hb
      · rw [e] at hb; exact hnR hb
    · obtain ⟨hE5, hnE⟩ := hs.keep hE4 (by omega) (hnew (by omega))
      obtain ⟨hN5, hnN⟩ := hs.keep hN4 (by omega) (hnew (by omega))
      obtain ⟨hR5, hnR⟩ := hs.keep hR4 (by omega) (hnew (by omega))
      obtain ⟨x, x0, x1, rfl⟩ := hR
      have hn5 : ∀ {b}, w.heap.size ≤ b → b < w4.heap.size → ¬ χ5.A b := fun {b} h h2 => by
        rcases (by omega : b = w.heap.size ∨ b = w.heap.size + 1 ∨ b = w.heap.size + 1 + 1 ∨ b = w.heap.size + 1 + 1 + 1) with rfl | rfl | rfl | rfl
        · exact hnE
        · exact hnN
        · exact hnR
        · exact hnD
      refine leaves_cons (f := 127) (args := #[.pointer (some ⟨w.heap.size, 0, none⟩), .pointer (some ⟨w.heap.size + 1, 0, none⟩), .pointer (some ⟨w.heap.size + 1 + 1, 0, none⟩)]) (by simp) (by simp [go_sem]) ?_
      refine (first1_panicking hE5 hN5 hR5 hEN hER hNR).mono ?_
      rintro e u' w6 ⟨rfl, rfl, hW⟩
      have hG := fin hs hi5 hn5 hW
      have hEc := hW.atE
      have m0 : w6.cell? ⟨w.heap.size, 0, none⟩ = some (.int .u8 0) := by rw [cell?_blk hEc]; rfl
      have m1 : w6.cell? ⟨w.heap.size, 1, none⟩ = some (.int .u32 0) := by rw [cell?_blk hEc]; rfl
      have m2 : w6.cell? ⟨w.heap.size, 2, none⟩ = some (.bool false) := by rw [cell?_blk hEc]; rfl
      have m3 : w6.cell? ⟨w.heap.size, 3, none⟩ = some (.slice none 0 0) := by rw [cell?_blk hEc]; rfl
      have m4 : w6.cell? ⟨w.heap.size, 4, none⟩ = some (.slice none 0 0) := by rw [cell?_blk hEc]; rfl
      have m5 : w6.cell? ⟨w.heap.size + 1, 0, none⟩ = some (.int .i64 0) := by rw [cell?_blk hW.atN]; rfl
      have m6 : w6.cell? ⟨w.heap.size + 1 + 1, 0, none⟩ = some (.int .i64 x) := by rw [cell?_blk hW.atR]; rfl
      clear hEc
      simp [Leaves, settle, results, Tryz.results60, go_sem, m0, m1, m2, m3, m4, m5, m6]
      exact ⟨0, 0, false, none, 0, 0, none, 0, 0, χ5, 0, x, rfl, by omega, by omega, x0, x1, ⟨by omega, by omega, ⟨Nat.le_refl _, by unfold LB; omega, by unfold CB; omega⟩, rfl, ⟨Nat.le_refl _, by unfold LB; omega, by unfold CB; omega⟩, rfl⟩, hG, fun _ => ⟨1, 0, by omega, by omega, treeAt_zero _ _⟩⟩
  · have hil : decide (65536 < l) = true := by simp; omega
    have hil2 : decide ((65536 : Int) < (l : Int)) = true := by simp; omega
    have hE3 := (g3.block _ (by omega) (by simp)).trans ((g2.block _ (by omega) (by simp)).trans hE1)
    have hN3 := (g3.block _ (by omega) (by simp)).trans hN2
    have f : ∀ {b : Nat} {cs : Array Value} {T : TypeId} (h : w3.heap[b]? = some (.cells cs T (0, 0))) (i : Nat), w3.frozen? ⟨b, i, none⟩ = false := fun h i => by rw [frozen?_blk h]; simp
    have m0 : w3.cell? ⟨w.heap.size, 0, none⟩ = some (.int .u8 0) := by rw [cell?_blk hE3]; rfl
    have m1 : w3.cell? ⟨w.heap.size, 1, none⟩ = some (.int .u32 0) := by rw [cell?_blk hE3]; rfl
    have m2 : w3.cell? ⟨w.heap.size, 2, none⟩ = some (.bool false) := by rw [cell?_blk hE3]; rfl
    have m3 : w3.cell? ⟨w.heap.size, 3, none⟩ = some (.slice none 0 0) := by rw [cell?_blk hE3]; rfl
    have m4 : w3.cell? ⟨w.heap.size, 4, none⟩ = some (.slice none 0 0) := by rw [cell?_blk hE3]; rfl
    have m5 : w3.cell? ⟨w.heap.size + 1, 0, none⟩ = some (.int .i64 0) := by rw [cell?_blk hN3]; rfl
    have m6 : w3.cell? ⟨w.heap.size + 1 + 1, 0, none⟩ = some (.int .i64 0) := by rw [cell?_blk hR3]; rfl
    have f0 := f hE3 0
    have f1 := f hE3 1
    have f2 := f hE3 2
    have f3 := f hE3 3
    have f4 := f hE3 4
    have f5 := f hN3 0
    have f6 := f hR3 0
    have hW := Lib.hid (wrote_mk (a0 := .int .u8 0) (a1 := .int .u32 0) (a2 := .bool false) (a3 := .slice none 0 0) (a4 := .slice none 0 0) (n := 0) (r := 3) hE3 hN3 hR3 hEN hER hNR)
    have hgw := grown_trans (grown_trans g1 g2) g3
    clear f hE3 hN3 hR3
    go_enter_defers Tryz.func60, Tryz.ntmps60
    go_wp2
    clear m0 m1 m2 m3 m4 m5 m6 f0 f1 f2 f3 f4 f5 f6
    generalize (((((((w3.setCell ⟨w.heap.size, 0, none⟩ (.int .u8 0)).setCell ⟨w.heap.size, 1, none⟩ (.int .u32 0)).setCell ⟨w.heap.size, 2, none⟩ (.bool false)).setCell ⟨w.heap.size, 3, none⟩ (.slice none 0 0)).setCell ⟨w.heap.size, 4, none⟩ (.slice none 0 0)).setCell ⟨w.heap.size + 1, 0, none⟩ (.int .i64 0)).setCell ⟨w.heap.size + 1 + 1, 0, none⟩ (.int .i64 3)) = w9 at *
    have hW7 := hW.out
    have hG : TGrows χ w χ w9 := TGrows.plain hi ⟨hW7.os.trans hgw.os, hW7.tape.trans hgw.tape, hW7.output.trans hgw.output, by have := hW7.size; omega, fun b hb _ => (hW7.same b (by omega) (by omega) (by omega)).trans (hgw.block b hb (by simp))⟩
    have hEc := hW7.atE
    have m0 : w9.cell? ⟨w.heap.size, 0, none⟩ = some (.int .u8 0) := by rw [cell?_blk hEc]; rfl
    have m1 : w9.cell? ⟨w.heap.size, 1, none⟩ = some (.int .u32 0) := by rw [cell?_blk hEc]; rfl
    have m2 : w9.cell? ⟨w.heap.size, 2, none⟩ = some (.bool false) := by rw [cell?_blk hEc]; rfl
    have m3 : w9.cell? ⟨w.heap.size, 3, none⟩ = some (.slice none 0 0) := by rw [cell?_blk hEc]; rfl
    have m4 : w9.cell? ⟨w.heap.size, 4, none⟩ = some (.slice none 0 0) := by rw [cell?_blk hEc]; rfl
    have m5 : w9.cell? ⟨w.heap.size + 1, 0, none⟩ = some (.int .i64 0) := by rw [cell?_blk hW7.atN]; rfl
    have m6 : w9.cell? ⟨w.heap.size + 1 + 1, 0, none⟩ = some (.int .i64 3) := by rw [cell?_blk hW7.atR]; rfl
    clear hEc
    simp [bodyPostD, Leaves, settle, results, Tryz.results60, go_sem, m0, m1, m2, m3, m4, m5, m6]
    exact ⟨0, 0, false, none, 0, 0, none, 0, 0, χ, 0, 3, rfl, by omega, by omega, by omega, by omega, ⟨by omega, by omega, ⟨Nat.le_refl _, by unfold LB; omega, by unfold CB; omega⟩, rfl, ⟨Nat.le_refl _, by unfold LB; omega, by unfold CB; omega⟩, rfl⟩, hG, fun _ => ⟨1, 0, by omega, by omega, treeAt_zero _ _⟩⟩

def DecPost2 (χ : Chi) (w : World) (e : Ending) (w' : World) : Prop :=
  ∃ (vc vt : Int) (vb : Bool) (a3 : Option Addr) (l3 c3 : Nat) (a4 : Option Addr) (l4 c4 : Nat) (χ' : Chi) (r : Int), e = .returned (.tuple #[.agg #[.int .u8 vc, .int .u32 vt, .bool vb, .slice a3 l3 c3, .slice a4 l4 c4], .int .i64 r]) ∧
    -9223372036854775808 ≤ r ∧ r ≤ 9223372036854775807 ∧ TreeF χ' vc vt vb a3 l3 c3 a4 l4 c4 ∧ TGrows χ w χ' w' ∧ (r = 0 → ∃ n s, n ≤ 2000 ∧ s ≤ 65536 ∧ TreeAt χ' w' 16 n s ⟨vc, vt, vb, a3, l3, c3, a4, l4, c4⟩)

set_option maxRecDepth 100000 in
set_option maxHeartbeats 3200000 in
theorem decode2_any {χ : Chi} {w : World} {ao : Option Addr} {l c : Nat} (hi : Inv Tryz.prog χ w) (hl : l ≤ 1099511627776) (hlc : l ≤ c) (hcc : c ≤ CB) (hr : RowOK χ χ.A oct ao c) : Calls Tryz.prog 63 #[.slice ao l c] w (DecPost2 χ w) := by
  have g1 := grown_alloc w (.cells #[.int .u8 0, .int .u32 0, .bool false, .slice none 0 0, .slice none 0 0] 61)
  have G1 := TGrows.plain hi g1
  have hfi := first2_any G1.inv hl hlc hcc hr
  have hE1 : (w.alloc (.cells #[.int .u8 0, .int .u32 0, .bool false, .slice none 0 0, .slice none 0 0] 61)).heap[w.heap.size]? = some (.cells #[.int .u8 0, .int .u32 0, .bool false, .slice none 0 0, .slice none 0 0] 61 (0, 0)) := by rw [alloc_get, if_pos rfl]
  go_enter Tryz.func63, Tryz.ntmps63
  go_wp2_with fail
  refine hfi.mono ?_
  clear hfi
  rintro e w2 ⟨vc, vt, vb, a3, l3, c3, a4, l4, c4, χ2, n, r, rfl, n0, n1, r0, r1, hT, G2, hTr2⟩
  obtain ⟨hE2, hnF⟩ := G2.keep hE1 (fun h => by have := hi.lt (hi.sub _ h); omega)
  have hnA : ¬ χ2.A w.heap.size := fun h => by
    rcases G2.mem.An _ h with h | h
    · have := hi.lt h; omega
    · have := lt_of_blk hE1; omega
  have GG := G1.trans G2
  have g3 := grown_alloc w2 (.cells #[.int .u8 vc, .int .u32 vt, .bool vb, .slice a3 l3 c3, .slice a4 l4 c4] 61)
  have G3 := GG.trans (TGrows.plain G2.inv g3)
  have hX3 : (w2.alloc (.cells #[.int .u8 vc, .int .u32 vt, .bool vb, .slice a3 l3 c3, .slice a4 l4 c4] 61)).heap[w2.heap.size]? = some (.cells #[.int .u8 vc, .int .u32 vt, .bool vb, .slice a3 l3 c3, .slice a4 l4 c4] 61 (0, 0)) := by rw [alloc_get, if_pos rfl]
  have hE3 := (g3.block _ (lt_of_blk hE2) (by simp)).trans hE2
  have f : ∀ {b : Nat} {cs : Array Value} {T : TypeId} (h : (w2.alloc (.cells #[.int .u8 vc, .int .u32 vt, .bool vb, .slice a3 l3 c3, .slice a4 l4 c4] 61)).heap[b]? = some (.cells cs T (0, 0))) (i : Nat), (w2.alloc (.cells #[.int .u8 vc, .int .u32 vt, .bool vb, .slice a3 l3 c3, .slice a4 l4 c4] 61)).frozen? ⟨b, i, none⟩ = false := fun h i => by rw [frozen?_blk h]; simp
  have hEX : w.heap.size ≠ w2.heap.size := Nat.ne_of_lt (lt_of_blk hE2)
  generalize hw3 : w2.alloc (.cells #[.int .u8 vc, .int .u32 vt, .bool vb, .slice a3 l3 c3, .slice a4 l4 c4] 61) = w3 at *
  have m0 : w3.cell? ⟨w.heap.size, 0, none⟩ = some (.int .u8 0) := by rw [cell?_blk hE3]; rfl
  have m1 : w3.cell? ⟨w.heap.size, 1, none⟩ = some (.int .u32 0) := by rw [cell?_blk hE3]; rfl
  have m2 : w3.cell? ⟨w.heap.size, 2, none⟩ = some (.bool false) := by rw [cell?_blk hE3]; rfl
  have m3 : w3.cell? ⟨w.heap.size, 3, none⟩ = some (.slice none 0 0) := by rw [cell?_blk hE3]; rfl
  have m4 : w3.cell? ⟨w.heap.size, 4, none⟩ = some (.slice none 0 0) := by rw [cell?_blk hE3]; rfl
  have x0 : w3.cell? ⟨w2.heap.size, 0, none⟩ = some (.int .u8 vc) := by rw [cell?_blk hX3]; rfl
  have x1 : w3.cell? ⟨w2.heap.size, 1, none⟩ = some (.int .u32 vt) := by rw [cell?_blk hX3]; rfl
  have x2 : w3.cell? ⟨w2.heap.size, 2, none⟩ = some (.bool vb) := by rw [cell?_blk hX3]; rfl
  have x3 : w3.cell? ⟨w2.heap.size, 3, none⟩ = some (.slice a3 l3 c3) := by rw [cell?_blk hX3]; rfl
  have x4 : w3.cell? ⟨w2.heap.size, 4, none⟩ = some (.slice a4 l4 c4) := by rw [cell?_blk hX3]; rfl
  have f0 := f hE3 0
  have f1 := f hE3 1
  have f2 := f hE3 2
  have f3 := f hE3 3
  have f4 := f hE3 4
  clear f hX3 hE2
  have hs := Lib.hid hE3
  have hTr3 : r = 0 → ∃ n s, n ≤ 2000 ∧ s ≤ 65536 ∧ TreeAt χ2 w3 16 n s ⟨vc, vt, vb, a3, l3, c3, a4, l4, c4⟩ := fun h => by
    obtain ⟨n, s, h1, h2, h3⟩ := hTr2 h
    exact ⟨n, s, h1, h2, h3.same (Ext.refl 0 χ2) fun b hb => g3.block b (G2.inv.lt hb) (by simp)⟩
  have fin : ∀ {vc vt : Int} {vb : Bool} {a3 : Option Addr} {l3 c3 : Nat} {a4 : Option Addr} {l4 c4 : Nat} {r : Int} {tm : Array Value}, -9223372036854775808 ≤ r → r ≤ 9223372036854775807 → TreeF χ2 vc vt vb a3 l3 c3 a4 l4 c4 → (r = 0 → ∃ n s, n ≤ 2000 ∧ s ≤ 65536 ∧ TreeAt χ2 w3 16 n s ⟨vc, vt, vb, a3, l3, c3, a4, l4, c4⟩) → tm[2]? = some (.pointer (some ⟨w.heap.size, 0, none⟩)) → tm[3]? = some (.int .i64 r) →
      bodyPost Tryz.prog Tryz.f63 (DecPost2 χ w) Exit.ret { tmps := tm, defers := [] } (((((w3.setCell ⟨w.heap.size, 0, none⟩ (.int .u8 vc)).setCell ⟨w.heap.size, 1, none⟩ (.int .u32 vt)).setCell ⟨w.heap.size, 2, none⟩ (.bool vb)).setCell ⟨w.heap.size, 3, none⟩ (.slice a3 l3 c3)).setCell ⟨w.heap.size, 4, none⟩ (.slice a4 l4 c4)) := by
    intro vc vt vb a3 l3 c3 a4 l4 c4 r tm h0 h1 hT hq ht2 ht3
    rw [set5 hs.out]
    have hlt := lt_of_blk hs.out
    have hEf : (setBlk w3 w.heap.size (.cells #[.int .u8 vc, .int .u32 vt, .bool vb, .slice a3 l3 c3, .slice a4 l4 c4] 61 (0, 0))).heap[w.heap.size]? = some (.cells #[.int .u8 vc, .int .u32 vt, .bool vb, .slice a3 l3 c3, .slice a4 l4 c4] 61 (0, 0)) := by rw [setBlk_get hlt, if_pos rfl]
    have hG : TGrows χ w χ2 (setBlk w3 w.heap.size (.cells #[.int .u8 vc, .int .u32 vt, .bool vb, .slice a3 l3 c3, .slice a4 l4 c4] 61 (0, 0))) :=
      ⟨G3.ext, ⟨G3.mem.os, G3.mem.tape, G3.mem.output, by rw [setBlk_size]; exact G3.mem.size, fun b hb hF => by rw [setBlk_get hlt, if_neg (by omega)]; exact G3.mem.old b hb hF, G3.mem.Fn, G3.mem.An⟩, G3.inv.setOwn hnA hlt _⟩
    have hq2 : r = 0 → ∃ n s, n ≤ 2000 ∧ s ≤ 65536 ∧ TreeAt χ2 (setBlk w3 w.heap.size (.cells #[.int .u8 vc, .int .u32 vt, .bool vb, .slice a3 l3 c3, .slice a4 l4 c4] 61 (0, 0))) 16 n s ⟨vc, vt, vb, a3, l3, c3, a4, l4, c4⟩ := fun h => by
      obtain ⟨n, s, h1, h2, h3⟩ := hq h
      exact ⟨n, s, h1, h2, h3.same (Ext.refl 0 χ2) fun b hb => by
        have e : b ≠ w.heap.size := fun e => hnA (by rw [e] at hb; exact hb)
        rw [setBlk_get hlt, if_neg e]⟩
    generalize setBlk w3 w.heap.size (.cells #[.int .u8 vc, .int .u32 vt, .bool vb, .slice a3 l3 c3, .slice a4 l4 c4] 61 (0, 0)) = wf at *
    have y0 : wf.cell? ⟨w.heap.size, 0, none⟩ = some (.int .u8 vc) := by rw [cell?_blk hEf]; rfl
    have y1 : wf.cell? ⟨w.heap.size, 1, none⟩ = some (.int .u32 vt) := by rw [cell?_blk hEf]; rfl
    have y2 : wf.cell? ⟨w.heap.size, 2, none⟩ = some (.bool vb) := by rw [cell?_blk hEf]; rfl
    have y3 : wf.cell? ⟨w.heap.size, 3, none⟩ = some (.slice a3 l3 c3) := by rw [cell?_blk hEf]; rfl
    have y4 : wf.cell? ⟨w.heap.size, 4, none⟩ = some (.slice a4 l4 c4) := by rw [cell?_blk hEf]; rfl
    refine bodyPost_ret (v := .tuple #[.agg #[.int .u8 vc, .int .u32 vt, .bool vb, .slice a3 l3 c3, .slice a4 l4 c4], .int .i64 r]) ?_ rfl ⟨vc, vt, vb, a3, l3, c3, a4, l4, c4, χ2, r, rfl, h0, h1, hT, hG, hq2⟩
    simp [results, Tryz.results63, go_sem, y0, y1, y2, y3, y4, ht2, ht3]
  clear hE3
  have hT0 : TreeF χ2 0 0 false none 0 0 none 0 0 := ⟨by omega, by omega, ⟨Nat.le_refl _, by unfold LB; omega, by unfold CB; omega⟩, rfl, ⟨Nat.le_refl _, by unfold LB; omega, by unfold CB; omega⟩, rfl⟩
  by_cases hr0 : r = 0
  · subst hr0
    by_cases hn : n < (l : Int)
    · have hnb : decide (n < (l : Int)) = true := by simpa using hn
      subst hw3
      go_wp2
      refine fin (r := 4) (by omega) (by omega) hT0 (fun _ => ⟨1, 0, by omega, by omega, treeAt_zero _ _⟩) rfl rfl
    · have hnb : decide (n < (l : Int)) = false := by simpa using hn
      subst hw3
      go_wp2
      refine fin (r := 0) (by omega) (by omega) hT (fun _ => hTr3 trivial) rfl rfl
  · have hrb : (r == 0) = false := by simpa using hr0
    have hrc : (r != 0) = true := by simpa using hr0
    subst hw3
    go_wp2
    refine fin (r := r) r0 r1 hT0 (fun _ => ⟨1, 0, by omega, by omega, treeAt_zero _ _⟩) rfl rfl

end Go.Sx

namespace Go.Sx
open Go Go.Proofs

noncomputable def cTdec : Contract := conOfX Tryz.prog 1099511627776 1099511627776 [] [] [] [] ((Tryz.prog.funcs[63]?).getD default)

theorem tau5 : tau Tryz.prog (.base 5) = oct := by kernel_rfl

set_option maxRecDepth 100000 in
theorem hand63 : FnOK Tryz.prog 63 cTdec := by
  have e1 : cTdec.iv = [some (0, 1099511627776), some (0, 9223372036854775807)] := by kernel_rfl
  have e2 : cTdec.params = [.pv (.one (.slice false (.base 5) (.v 0) (.v 1)))] := by kernel_rfl
  have e4 : cTdec.riv = [some (0, 255), some (0, 4294967295), some (0, 1), some (0, 1099511627776), some (0, 9223372036854775807), some (0, 1099511627776), some (0, 9223372036854775807), some (-9223372036854775808, 9223372036854775807)] := by kernel_rfl
  have e5 : cTdec.res = .tup [.agg [.int .u8 (.v 2), .int .u32 (.v 3), .bool (.eq (.v 4) (.c 1)), .slice true (.base 5) (.v 5) (.v 6), .slice true (.base 61) (.v 7) (.v 8)], .one (.int .i64 (.v 9))] := by kernel_rfl
  have e6 : cTdec.post = [.le (.v 5) (.v 6), .le (.v 7) (.v 8)] := by kernel_rfl
  have e7 : cTdec.nv = 2 := by simp [Contract.nv, e1]
  intro χ w args hinv ha hi hp _
  rw [e2] at ha
  rw [e1] at hi
  obtain ⟨args⟩ := args
  match args, ha with
  | [a], ⟨ha, _⟩ =>
    obtain ⟨ao, l, c, rfl, p1, p2, p3, p4, p5⟩ := ha
    simp only [T.ev] at p1 p2
    obtain ⟨i0, _⟩ := hi
    simp only [SE.ev, tau5] at p5
    have hl : l ≤ 1099511627776 := by have := i0.2; omega
    refine (decode2_any hinv hl p3 p4 p5).mono ?_
    rintro e w' ⟨vc, vt, vb, a3, l3, c3, a4, l4, c4, χ2, r, rfl, r0, r1, hT, G, _⟩
    have k1 : Ext 2 χ (χ2.withρ (rext χ.ρ 2 [vc, vt, (if vb then 1 else 0), (l3 : Int), (c3 : Int), (l4 : Int), (c4 : Int), r])) := ⟨fun i hi => by simp only [Chi.withρ]; exact rext_lt hi, G.ext.F, G.ext.A, G.ext.κ⟩
    have h31 := hT.l3.2.1
    have h32 := hT.l3.2.2
    have h41 := hT.l4.2.1
    have h42 := hT.l4.2.2
    unfold LB at h31 h41
    unfold CB at h32 h42
    have hc0 := hT.c0
    have ht0 := hT.t0
    have h30 := hT.l3.1
    have h40 := hT.l4.1
    refine ⟨_, _, rfl, by rw [e7]; exact k1, G.mem.withρ _, G.inv.withρ _, ?_, ?_, ?_⟩
    · rw [e5]
      refine ⟨_, rfl, ⟨_, rfl, ⟨?_, ?_, ?_, ⟨a3, l3, c3, rfl, ?_, ?_, hT.l3.1, hT.l3.2.2, ?_⟩, ⟨a4, l4, c4, rfl, ?_, ?_, hT.l4.1, hT.l4.2.2, ?_⟩, trivial⟩, ?_⟩, ?_, trivial⟩
      · show Value.int .u8 vc = Value.int .u8 (rext χ.ρ 2 [vc, vt, (if vb then 1 else 0), (l3 : Int), (c3 : Int), (l4 : Int), (c4 : Int), r] 2)
        simp [rext]
      · show Value.int .u32 vt = Value.int .u32 (rext χ.ρ 2 [vc, vt, (if vb then 1 else 0), (l3 : Int), (c3 : Int), (l4 : Int), (c4 : Int), r] 3)
        simp [rext]
      · show Value.bool vb = Value.bool (decide (rext χ.ρ 2 [vc, vt, (if vb then 1 else 0), (l3 : Int), (c3 : Int), (l4 : Int), (c4 : Int), r] 4 = 1))
        cases vb <;> simp [rext]
      · show (l3 : Int) = rext χ.ρ 2 [vc, vt, (if vb then 1 else 0), (l3 : Int), (c3 : Int), (l4 : Int), (c4 : Int), r] 5
        simp [rext]
      · show (c3 : Int) = rext χ.ρ 2 [vc, vt, (if vb then 1 else 0), (l3 : Int), (c3 : Int), (l4 : Int), (c4 : Int), r] 6
        simp [rext]
      · simp only [SE.ev, tau5]; exact hT.r3
      · show (l4 : Int) = rext χ.ρ 2 [vc, vt, (if vb then 1 else 0), (l3 : Int), (c3 : Int), (l4 : Int), (c4 : Int), r] 7
        simp [rext]
      · show (c4 : Int) = rext χ.ρ 2 [vc, vt, (if vb then 1 else 0), (l3 : Int), (c3 : Int), (l4 : Int), (c4 : Int), r] 8
        simp [rext]
      · simp only [SE.ev, tauT]; exact hT.r4
      · intro x hx
        simp only [List.mem_cons, List.not_mem_nil, or_false] at hx
        rcases hx with rfl | rfl | rfl | rfl | rfl <;> rfl
      · show Value.int .i64 r = Value.int .i64 (rext χ.ρ 2 [vc, vt, (if vb then 1 else 0), (l3 : Int), (c3 : Int), (l4 : Int), (c4 : Int), r] 9)
        simp [rext]
    · rw [e7, e4]
      have hb : (0 : Int) ≤ (if vb then 1 else 0) ∧ (if vb then (1 : Int) else 0) ≤ 1 := by cases vb <;> simp
      refine ⟨?_, ?_, ?_, ?_, ?_, ?_, ?_, ?_, trivial⟩
      all_goals
        simp [Chi.withρ, rext]
        omega
    · rw [e6]
      refine ⟨?_, ?_, trivial⟩
      all_goals
        simp [Fm.holds, T.ev, Chi.withρ, rext]
        omega

end Go.Sx
