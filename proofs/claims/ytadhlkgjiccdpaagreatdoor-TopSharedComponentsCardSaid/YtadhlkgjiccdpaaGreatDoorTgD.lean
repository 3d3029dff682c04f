/- Part TgD of a proof: helper lemmas; no conditions. -/
import Derived.Test.YtadhlkgjiccdpaaGreatDoorTgC
import Derived.Deep.DeepCutAuto
import Derived.Deep.CutBlock
import Derived.Deep.RegionLaw
import Derived.Test.YtadhlkgjiccdpaaGreatDoorTgQ
import Derived.Test.YtadhlkgjiccdpaaGreatDoorTgM
import Derived.Defers
import Derived.Recover

set_option linter.unusedSimpArgs false
set_option linter.unusedVariables false

/-
  The reading of tagged elements: an element.
-/
namespace Go.Sx
open Go Go.Proofs

/-- typed memory has grown; beside the decoder's block nothing old has turned that may not be written -/
structure StepD (D : Nat) (χ : Chi) (w : World) (χ' : Chi) (w' : World) : Prop where
  ext : Ext 0 χ χ'
  os : w'.os = w.os
  tape : w'.tape = w.tape
  output : w'.output = w.output
  size : w.heap.size ≤ w'.heap.size
  old : ∀ b, b < w.heap.size → b ≠ D → ¬ χ.F b → w'.heap[b]? = w.heap[b]?
  Fn : ∀ b, χ'.F b → χ.F b ∨ w.heap.size ≤ b
  An : ∀ b, χ'.A b → χ.A b ∨ w.heap.size ≤ b

theorem StepD.of_grown {D : Nat} {χ : Chi} {w w' : World} (h : w.grownBy w' (some D)) : StepD D χ w χ w' :=
  ⟨Ext.refl 0 χ, h.os, h.tape, h.output, h.size, fun b hb hD _ => h.block b hb (fun e => hD (by cases e; rfl)), fun _ h => .inl h, fun _ h => .inl h⟩

theorem StepD.of_mem {D : Nat} {χ χ' : Chi} {w w' : World} (hx : Ext 0 χ χ') (h : MemExt χ w χ' w') : StepD D χ w χ' w' :=
  ⟨hx, h.os, h.tape, h.output, h.size, fun b hb _ hF => h.old b hb hF, h.Fn, h.An⟩

theorem StepD.trans {D : Nat} {χ χ' χ'' : Chi} {w w' w'' : World} (h : StepD D χ w χ' w') (k : StepD D χ' w' χ'' w'') : StepD D χ w χ'' w'' where
  ext := h.ext.trans k.ext
  os := k.os.trans h.os
  tape := k.tape.trans h.tape
  output := k.output.trans h.output
  size := Nat.le_trans h.size k.size
  old := fun b hb hD hF => by
    have h1 : ¬ χ'.F b := fun hb' => by
      rcases h.Fn b hb' with h1 | h1
      · exact hF h1
      · omega
    exact (k.old b (Nat.lt_of_lt_of_le hb h.size) hD h1).trans (h.old b hb hD hF)
  Fn := fun b hb => by
    rcases k.Fn b hb with h1 | h1
    · exact h.Fn b h1
    · exact .inr (Nat.le_trans h.size h1)
  An := fun b hb => by
    rcases k.An b hb with h1 | h1
    · exact h.An b h1
    · exact .inr (Nat.le_trans h.size h1)

/-- a block of one's own stays -/
theorem StepD.keep {D : Nat} {χ χ' : Chi} {w w' : World} (h : StepD D χ w χ' w') (hi : Inv Tryz.prog χ w) {E : Nat} {o : Obj} (hE : w.heap[E]? = some o) (hD : E ≠ D) (hA : ¬ χ.A E) : w'.heap[E]? = some o ∧ ¬ χ'.A E := by
  have hlt : E < w.heap.size := by
    rcases Nat.lt_or_ge E w.heap.size with h | h
    · exact h
    · rw [Array.getElem?_eq_none h] at hE; cases hE
  refine ⟨(h.old E hlt hD (fun hF => hA (hi.sub E hF))).trans hE, fun hA' => ?_⟩
  rcases h.An E hA' with h1 | h1
  · exact hA h1
  · omega

def ElemPost (χ : Chi) (w : World) (D l : Nat) (e : Ending) (w' : World) : Prop :=
  (∃ (χ' : Chi) (vc vt : Int) (vb : Bool) (ao3 : Option Addr) (l3 c3 : Nat) (ao4 : Option Addr) (l4 c4 : Nat) (ao' : Option Addr) (l' c' : Nat) (cnt' : Int),
    e = .returned (.agg #[.int .u8 vc, .int .u32 vt, .bool vb, .slice ao3 l3 c3, .slice ao4 l4 c4]) ∧ TreeF χ' vc vt vb ao3 l3 c3 ao4 l4 c4 ∧ Dec χ' w' D ao' l' c' cnt' ∧ l' + 1 ≤ l ∧ StepD D χ w χ' w') ∨
  (Raised e ∧ ∃ χ', StepD D χ w χ' w' ∧ Inv Tryz.prog χ' w' ∧ ¬ χ'.A D)

theorem elem_raised {χ : Chi} {w w' : World} {D l : Nat} {e : Ending} (hR : Raised e) {χ' : Chi} (hs : StepD D χ w χ' w') (hi : Inv Tryz.prog χ' w') (hA : ¬ χ'.A D) : ElemPost χ w D l e w' := .inr ⟨hR, χ', hs, hi, hA⟩

theorem bits_and_u8 (a b : Int) : 0 ≤ bits BinOp.and .u8 a b ∧ bits BinOp.and .u8 a b ≤ 255 := wrap_range .u8 _

theorem Dec.stepM {χ χ' : Chi} {w w' : World} {D : Nat} {ao : Option Addr} {l c : Nat} {cnt : Int} (h : Dec χ w D ao l c cnt) (hx : Ext 0 χ χ') (hm : MemExt χ w χ' w') (hi : Inv Tryz.prog χ' w') : Dec χ' w' D ao l c cnt := by
  obtain ⟨k1, k2⟩ := (StepD.of_mem (D := D + 1) hx hm).keep h.inv h.at_ (by omega) h.nA
  exact ⟨hi, k2, k1, h.lc, h.cc, h.ll, h.cn, h.row.ext hx hx.A (fun _ h => h)⟩

theorem StepD.setOther {D : Nat} {χ χ' : Chi} {w wx : World} (h : StepD D χ w χ' wx) {E : Nat} (hlt : E < wx.heap.size) (hE : w.heap.size ≤ E) (o : Obj) : StepD D χ w χ' (setBlk wx E o) :=
  ⟨h.ext, h.os, h.tape, h.output, by rw [setBlk_size]; exact h.size, fun b hb hD hF => by rw [setBlk_get hlt, if_neg (by omega)]; exact h.old b hb hD hF, h.Fn, h.An⟩

theorem Dec.setOther {χ : Chi} {w : World} {D : Nat} {ao : Option Addr} {l c : Nat} {cnt : Int} (h : Dec χ w D ao l c cnt) {E : Nat} {o : Obj} (hE : w.heap[E]? = some o) (hED : E ≠ D) (hA : ¬ χ.A E) (o' : Obj) : Dec χ (setBlk w E o') D ao l c cnt := by
  have hlt : E < w.heap.size := by
    rcases Nat.lt_or_ge E w.heap.size with h | h
    · exact h
    · rw [Array.getElem?_eq_none h] at hE; cases hE
  exact ⟨h.inv.setOwn hA hlt o', h.nA, by rw [setBlk_get hlt, if_neg (fun e => hED e.symm)]; exact h.at_, h.lc, h.cc, h.ll, h.cn, h.row⟩

theorem grown_setOther {w wx : World} {D E : Nat} (h : w.grownBy wx (some D)) (hlt : E < wx.heap.size) (hE : w.heap.size ≤ E) (o : Obj) : w.grownBy (setBlk wx E o) (some D) :=
  ⟨h.os, h.tape, h.output, by rw [setBlk_size]; exact h.size, fun k hk hn => by rw [setBlk_get hlt, if_neg (by omega)]; exact h.block k hk hn⟩

theorem set5 {w : World} {E T : Nat} {z0 z1 z2 z3 z4 a0 a1 a2 a3 a4 : Value} (h : w.heap[E]? = some (.cells #[z0, z1, z2, z3, z4] T (0, 0))) :
    (((((w.setCell ⟨E, 0, none⟩ a0).setCell ⟨E, 1, none⟩ a1).setCell ⟨E, 2, none⟩ a2).setCell ⟨E, 3, none⟩ a3).setCell ⟨E, 4, none⟩ a4) = setBlk w E (.cells #[a0, a1, a2, a3, a4] T (0, 0)) := by
  have hlt := lt_of_blk h
  have step : ∀ (o o' : Obj), setBlk (setBlk w E o) E o' = setBlk w E o' := fun o o' => by simp [setBlk]
  have g : ∀ o, (setBlk w E o).heap[E]? = some o := fun o => by rw [setBlk_get hlt, if_pos rfl]
  rw [setCell_blk h, setCell_blk (g _), step, setCell_blk (g _), step, setCell_blk (g _), step, setCell_blk (g _), step]
  rfl

theorem element_cal : callable Tryz.prog 128 = true := by kernel_rfl

/-- behind what it holds -/
def Mid2 (χ : Chi) (w : World) (D l : Nat) (E4 E : Nat) (wx : World) : Prop :=
  ∃ (χ' : Chi) (vc vt : Int) (vb : Bool) (ao3 : Option Addr) (l3 c3 : Nat) (ao4 : Option Addr) (l4 c4 : Nat) (ao' : Option Addr) (l' c' : Nat) (cnt' : Int),
    wx.heap[E]? = some (.cells #[.int .u8 vc, .int .u32 vt, .bool vb, .slice ao3 l3 c3, .slice ao4 l4 c4] 61 (0, 0)) ∧ TreeF χ' vc vt vb ao3 l3 c3 ao4 l4 c4 ∧ l4 ≤ 100000 ∧ Dec χ' wx D ao' l' c' cnt' ∧ l' + 1 ≤ l ∧ StepD D χ w χ' wx ∧ ¬ χ'.A E ∧
      wx.heap[E4]? = some (.cells #[.int .u8 0, .int .u32 0, .bool false, .slice none 0 0, .slice none 0 0] 61 (0, 0)) ∧ ¬ χ'.A E4

/-- its parts, so far -/
def LoopI (χ : Chi) (w : World) (D : Nat) (E4 E lm k : Nat) (wx : World) : Prop :=
  ∃ (χ' : Chi) (vc vt : Int) (vb : Bool) (ao4 : Option Addr) (l4 c4 : Nat) (ao' : Option Addr) (l' c' : Nat) (cnt' : Int),
    wx.heap[E]? = some (.cells #[.int .u8 vc, .int .u32 vt, .bool vb, .slice none 0 0, .slice ao4 l4 c4] 61 (0, 0)) ∧ TreeF χ' vc vt vb none 0 0 ao4 l4 c4 ∧ l4 + l' ≤ 65536 ∧ Dec χ' wx D ao' l' c' cnt' ∧ l' ≤ k ∧ l' ≤ lm ∧ StepD D χ w χ' wx ∧ ¬ χ'.A E ∧
      wx.heap[E4]? = some (.cells #[.int .u8 0, .int .u32 0, .bool false, .slice none 0 0, .slice none 0 0] 61 (0, 0)) ∧ ¬ χ'.A E4

/-- behind the tag -/
def Mid1 (χ : Chi) (w : World) (D l : Nat) (cnt : Int) (E4 E : Nat) (vc : Int) (vb : Bool) (wx : World) : Prop :=
  ∃ (t : Int) (ao2 : Option Addr) (l2 c2 : Nat), 0 ≤ t ∧ t ≤ 4294967295 ∧ wx.heap[E]? = some (.cells #[.int .u8 vc, .int .u32 t, .bool vb, .slice none 0 0, .slice none 0 0] 61 (0, 0)) ∧ Dec χ wx D ao2 l2 c2 (cnt + 1) ∧ l2 + 1 ≤ l ∧ w.grownBy wx (some D) ∧ wx.heap[E4]? = some (.cells #[.int .u8 0, .int .u32 0, .bool false, .slice none 0 0, .slice none 0 0] 61 (0, 0))

set_option maxRecDepth 100000 in
set_option maxHeartbeats 3200000 in
theorem element_any : ∀ k dp : Nat, dp + k = 17 → ∀ {χ : Chi} {w : World} {D : Nat} {ao : Option Addr} {l c : Nat} {cnt : Int}, Dec χ w D ao l c cnt →
    Calls Tryz.prog 128 #[.pointer (some ⟨D, 0, none⟩), .int .i64 (dp : Int)] w (ElemPost χ w D l) := by
  intro k
  induction k with
  | zero =>
    intro dp hdp χ w D ao l c cnt h
    obtain rfl : dp = 17 := by omega
    have hg0 := grown_alloc w (.cells #[.int .u8 0, .int .u32 0, .bool false, .slice none 0 0, .slice none 0 0] 61)
    have hd0 := h.grown hg0
    go_enter Tryz.func128, Tryz.ntmps128
    go_wp2_with fail
    refine (must_any _ _ (by omega) (by omega)).mono ?_
    rintro e w3 ⟨rfl, (⟨hb3, rfl⟩ | ⟨hb3, hR⟩)⟩
    · cases hb3
    · obtain ⟨n, n0, n1, rfl⟩ := hR
      exact ⟨rfl, elem_raised (raised_mk n0 n1) (StepD.of_grown (grown_some hg0)) hd0.inv hd0.nA⟩
  | succ k ih =>
    intro dp hdp χ w D ao l c cnt h
    have hd16 : dp ≤ 16 := by omega
    have hil : decide ((dp : Int) ≤ 16) = true := by simp; omega
    have hil2 : decide (dp ≤ 16) = true := by simp; omega
    have hil3 : (dp : Int) ≤ 16 := by omega
    have hdp0 : (0 : Int) ≤ (dp : Int) := by omega
    have hg0 := grown_alloc w (.cells #[.int .u8 0, .int .u32 0, .bool false, .slice none 0 0, .slice none 0 0] 61)
    have hd0 := h.grown hg0
    have hE4 : (w.alloc (.cells #[.int .u8 0, .int .u32 0, .bool false, .slice none 0 0, .slice none 0 0] 61)).heap[w.heap.size]? = some (.cells #[.int .u8 0, .int .u32 0, .bool false, .slice none 0 0, .slice none 0 0] 61 (0, 0)) := by rw [alloc_get, if_pos rfl]
    have hDn : w.heap.size ≠ D := Nat.ne_of_gt h.lt
    have hnA : ¬ χ.A w.heap.size := fun hA => by have := h.inv.lt hA; omega
    have hc1 := hd0.c1
    have hcn := h.cn
    have hf1 := hd0.f 1
    clear h
    go_enter Tryz.func128, Tryz.ntmps128
    go_wp2_with fail
    generalize hw1 : w.alloc (.cells #[.int .u8 0, .int .u32 0, .bool false, .slice none 0 0, .slice none 0 0] 61) = w1 at *
    refine (must_any _ _ (by omega) (by omega)).mono ?_
    rintro e w1 ⟨rfl, (⟨hb3, rfl⟩ | ⟨hb3, hR⟩)⟩
    rotate_left
    · obtain ⟨n, n0, n1, rfl⟩ := hR
      exact ⟨rfl, elem_raised (raised_mk n0 n1) (StepD.of_grown (grown_some hg0)) hd0.inv hd0.nA⟩
    have hcl : cnt < 1024 := by simpa using hb3
    obtain ⟨hd2, hg2⟩ := hd0.putN (n := cnt + 1) (by omega)
    have hE4b := (hg2.block _ (lt_of_blk hE4) (fun e => hDn (by cases e; rfl))).trans hE4
    clear hb3 hE4 hd0
    go_wp2_with fail
    clear hc1 hf1
    generalize w1.setCell ⟨D, 1, none⟩ (.int .i64 (cnt + 1)) = w2 at *
    refine (next_any hd2).mono ?_
    rintro e w3 ⟨hg3, (⟨h1, x, ao1, hx0, hx1, rfl, hd3⟩ | hR)⟩
    rotate_left
    · obtain ⟨n, n0, n1, rfl⟩ := hR
      exact ⟨rfl, elem_raised (raised_mk n0 n1) (StepD.of_grown (grown_transD (grown_transD (grown_some hg0) hg2) hg3)) (inv_grownD hd2.inv hd2.nA hg3) hd2.nA⟩
    have hgw3 := grown_transD (grown_transD (grown_some hg0) hg2) hg3
    have hE4c := (hg3.block _ (lt_of_blk hE4b) (fun e => hDn (by cases e; rfl))).trans hE4b
    have hs4 := lt_of_blk hE4c
    clear hE4b hd2 hg2 hg3
    have hx64 : 0 ≤ x / 64 := by omega
    have hx65 : x / 64 ≤ 255 := by omega
    have ha1 := bits_and_u8 x 31
    have ha2 := bits_and_u8 x 32
    go_upto_if 43 with fail
    generalize hvb : decide (0 < bits BinOp.and IntKind.u8 x 32) = vb at *
    clear hvb ha1 ha2
    have hg4 := grown_alloc w3 (.cells #[.int .u8 (x / 64), .int .u32 (x % 32), .bool vb, .slice none 0 0, .slice none 0 0] 61)
    have hE6 : (w3.alloc (.cells #[.int .u8 (x / 64), .int .u32 (x % 32), .bool vb, .slice none 0 0, .slice none 0 0] 61)).heap[w3.heap.size]? = some (.cells #[.int .u8 (x / 64), .int .u32 (x % 32), .bool vb, .slice none 0 0, .slice none 0 0] 61 (0, 0)) := by rw [alloc_get, if_pos rfl]
    have hE4d := (hg4.block _ hs4 (by simp)).trans hE4c
    have hd4 := hd3.grown hg4
    have hgw4 := grown_transD hgw3 (grown_some hg4)
    have hED : w3.heap.size ≠ D := Nat.ne_of_gt hd3.lt
    have hnA6 : ¬ χ.A w3.heap.size := fun hA => by have := hd3.inv.lt hA; omega
    have hEE : w.heap.size < w3.heap.size := hs4
    generalize w3.alloc (.cells #[.int .u8 (x / 64), .int .u32 (x % 32), .bool vb, .slice none 0 0, .slice none 0 0] 61) = w4 at *
    generalize w3.heap.size = E at *
    clear hE4c hd3 hg4 hgw3 hs4
    go_cut [] (fun wx => Mid1 χ w D l cnt w.heap.size E (x / 64) vb wx)
    case first =>
      go_wp2_with fail
      · refine (number_any hd4).mono ?_
        rintro e w5 ⟨hg5, (⟨y, ao2, l2, c2, hy0, hy1, rfl, hl2, hd5⟩ | hR)⟩
        rotate_left
        · obtain ⟨n, n0, n1, rfl⟩ := hR
          exact ⟨rfl, elem_raised (raised_mk n0 n1) (StepD.of_grown (grown_transD hgw4 hg5)) (inv_grownD hd4.inv hd4.nA hg5) hd4.nA⟩
        have hE7 := (hg5.block _ (lt_of_blk hE6) (fun e => hED (by cases e; rfl))).trans hE6
        have hE4e := (hg5.block _ (lt_of_blk hE4d) (fun e => hDn (by cases e; rfl))).trans hE4d
        have hgw5 := grown_transD hgw4 hg5
        have k1 : w5.cell? ⟨E, 1, none⟩ = some (.int .u32 (x % 32)) := by rw [cell?_blk hE7]; rfl
        have k2 : w5.frozen? ⟨E, 1, none⟩ = false := by rw [frozen?_blk hE7]; simp
        have HM : (Mid1 χ w D l cnt w.heap.size E (x / 64) vb (w5.setCell ⟨E, 1, none⟩ (.int .u32 y))) := by
          rw [setCell_blk hE7]
          exact ⟨y, ao2, l2, c2, hy0, hy1, by rw [setBlk_get (lt_of_blk hE7), if_pos rfl]; rfl, hd5.setOther hE7 hED hnA6 _, by omega, grown_setOther hgw5 (lt_of_blk hE7) (by omega) _, by rw [setBlk_get (lt_of_blk hE7), if_neg (by omega)]; exact hE4e⟩
        clear hE6 hE7 hE4d hE4e hd4 hd5
        go_wp2_with fail
        go_meet
        exact HM
      · go_meet
        exact ⟨x % 32, ao1, l - 1, c - 1, by omega, by omega, hE6, hd4, by omega, hgw4, hE4d⟩
    case rest =>
      obtain ⟨t, ao2, l2, c2, ht0, ht1, hE7, hd5, hl2, hgw5, hE4e⟩ := hcut
      have k0 : wc.cell? ⟨E, 0, none⟩ = some (.int .u8 (x / 64)) := by rw [cell?_blk hE7]; rfl
      have k1 : wc.cell? ⟨E, 1, none⟩ = some (.int .u32 t) := by rw [cell?_blk hE7]; rfl
      have k2 : wc.cell? ⟨E, 2, none⟩ = some (.bool vb) := by rw [cell?_blk hE7]; rfl
      have k3 : wc.cell? ⟨E, 3, none⟩ = some (.slice none 0 0) := by rw [cell?_blk hE7]; rfl
      have k4 : wc.cell? ⟨E, 4, none⟩ = some (.slice none 0 0) := by rw [cell?_blk hE7]; rfl
      clear hE6 hd4 hgw4 hE4d
      go_upto_region 7 with fail
      go_cut [] (fun wx => wx = wc)
      case first =>
        go_wp2_with fail
        all_goals
          refine (must_any _ _ (by omega) (by omega)).mono ?_
          rintro e wd ⟨hwd, (⟨hb3, rfl⟩ | ⟨hb3, hR⟩)⟩
          rotate_left
          · obtain ⟨n, n0, n1, rfl⟩ := hR
            subst hwd
            exact ⟨rfl, elem_raised (raised_mk n0 n1) (StepD.of_grown hgw5) hd5.inv hd5.nA⟩
          have HB := Lib.hid hb3
          clear hb3
          go_wp2_with fail
          go_meet
          first | exact rfl | exact hwd
      case rest =>
        subst hcut
        have hlen := length_any hd5 (x / 64) t vb (.slice none 0 0) (.slice none 0 0) rfl rfl
        go_wp2_with fail
        refine hlen.mono ?_
        clear hlen
        rintro e w6 ⟨hg6, (⟨n, ok, ao3, l3, c3, hn, rfl, hl3, hd6⟩ | hR)⟩
        rotate_left
        · obtain ⟨n, n0, n1, rfl⟩ := hR
          exact ⟨rfl, elem_raised (raised_mk n0 n1) (StepD.of_grown (grown_transD hgw5 hg6)) (inv_grownD hd5.inv hd5.nA hg6) hd5.nA⟩
        have hE8 := (hg6.block _ (lt_of_blk hE7) (fun e => hED (by cases e; rfl))).trans hE7
        have hE4f := (hg6.block _ (lt_of_blk hE4e) (fun e => hDn (by cases e; rfl))).trans hE4e
        have hgw6 := grown_transD hgw5 hg6
        clear k0 k1 k2 k3 k4 hd5 hE7 hE4e hg6 hgw5
        go_upto_block 0 with fail
        have hx64' : 0 ≤ x / 64 ∧ x / 64 ≤ 255 := ⟨hx64, hx65⟩
        generalize x / 64 = vc at *
        go_cut [] (fun wx => Mid2 χ w D l w.heap.size E wx)
        case first =>
          have hs6 := StepD.of_grown (χ := χ) hgw6
          cases ok with
          | false =>
            go_wp2_with fail
            go_loopg [] l3 (fun k wr => LoopI χ w D w.heap.size E l3 k wr)
            case atStart => exact ⟨χ, vc, t, vb, none, 0, 0, ao3, l3, c3, cnt + 1, hE8, ⟨hx64', ⟨ht0, ht1⟩, ⟨Nat.le_refl _, by unfold LB; omega, by unfold CB; omega⟩, rfl, ⟨Nat.le_refl _, by unfold LB; omega, by unfold CB; omega⟩, rfl⟩, by have := hd6.ll; omega, hd6, Nat.le_refl _, Nat.le_refl _, hs6, hnA6, hE4f, hnA⟩
            case round =>
              obtain ⟨χ1, vc1, vt1, vb1, ao4, l4, c4, ao5, l5, c5, cnt5, hE9, hT, hl4, hd7, hlk, hlm, hs7, hnE, hE4g, hn4⟩ := hrel
              have hah := ahead_any hd7
              clear hE8 hE4f hd6 hs6 hgw6
              go_wp2_with fail
              refine hah.mono ?_
              clear hah
              rintro e w8 ⟨hg8, (⟨b, ao6, l6, c6, rfl, hl6, hl5, hd8⟩ | hR)⟩
              rotate_left
              · obtain ⟨n, n0, n1, rfl⟩ := hR
                exact ⟨rfl, elem_raised (raised_mk n0 n1) (hs7.trans (StepD.of_grown hg8)) (inv_grownD hd7.inv hd7.nA hg8) hd7.nA⟩
              have hs8 := hs7.trans (StepD.of_grown (χ := χ1) hg8)
              have hE10 := (hg8.block _ (lt_of_blk hE9) (fun e => hED (by cases e; rfl))).trans hE9
              have hE4h := (hg8.block _ (lt_of_blk hE4g) (fun e => hDn (by cases e; rfl))).trans hE4g
              clear hE9 hE4g hd7 hs7 hg8
              cases gk with
              | zero => omega
              | succ k' =>
                cases b with
                | false =>
                  have HM : Mid2 χ w D l w.heap.size E w8 := ⟨χ1, vc1, vt1, vb1, none, 0, 0, ao4, l4, c4, ao6, l6, c6, cnt5, hE10, hT, by omega, hd8, by omega, hs8, hnE, hE4h, hn4⟩
                  clear hE10 hE4h hd8
                  go_wp2_with fail
                  go_meet
                  exact HM
                | true =>
                  have hwr : IntKind.i64.wrap ((dp : Int) + 1) = (dp : Int) + 1 := wrap_id (by show (-9223372036854775808 : Int) ≤ _; omega) (by show _ ≤ (9223372036854775807 : Int); omega)
                  have hdd := hd8.grown (grown_drew0 w8)
                  have hih := ih (dp + 1) (by omega) hdd
                  rw [show ((dp + 1 : Nat) : Int) = (dp : Int) + 1 from rfl] at hih
                  have hEd : w8.drew.heap[E]? = some (.cells #[.int .u8 vc1, .int .u32 vt1, .bool vb1, .slice none 0 0, .slice ao4 l4 c4] 61 (0, 0)) := hE10
                  have hE4d' : w8.drew.heap[w.heap.size]? = some (.cells #[.int .u8 0, .int .u32 0, .bool false, .slice none 0 0, .slice none 0 0] 61 (0, 0)) := hE4h
                  have hsd := hs8.trans (StepD.of_grown (D := D) (χ := χ1) (grown_some (grown_drew0 w8)))
                  have k4 : w8.drew.cell? ⟨E, 4, none⟩ = some (.slice ao4 l4 c4) := by rw [cell?_blk hEd]; rfl
                  clear hE10 hE4h hs8 hd8
                  go_wp2_with fail
                  go_region_law (first
                    | (refine step_call2 (vx := .pointer (some ⟨D, 0, none⟩)) (vy := .int .i64 ((dp : Int) + 1)) rfl 128 (.tmp 77) (.tmp 79) #[183, 3] rfl element_cal (by go_simp) (by go_simp; try exact hwr) hih (fun e w9 h => ?_)
                       rcases h with ⟨χ2, vc2, vt2, vb2, ao7, l7, c7, ao8, l8, c8, ao9, l9, c9, cnt9, rfl, hT2, hd9, hl9, hs9⟩ | ⟨hR, χ2, hs9, hi9, hA9⟩
                       rotate_left
                       · obtain ⟨n, n0, n1, rfl⟩ := hR
                         exact .inr ⟨_, rfl, rfl, elem_raised (raised_mk n0 n1) (hsd.trans hs9) hi9 hA9⟩
                       obtain ⟨hE11, hnE2⟩ := hs9.keep hdd.inv hEd hED hnE
                       obtain ⟨hE4i, hn42⟩ := hs9.keep hdd.inv hE4d' hDn hn4
                       have hTx := hT.ext hdd.inv.sub hs9.ext
                       have k5 : w9.cell? ⟨E, 4, none⟩ = some (.slice ao4 l4 c4) := by rw [cell?_blk hE11]; rfl
                       have k5a : (w9.alloc (.cells #[.int .u8 vc2, .int .u32 vt2, .bool vb2, .slice ao7 l7 c7, .slice ao8 l8 c8] 61)).cell? ⟨E, 4, none⟩ = some (.slice ao4 l4 c4) := (World.cell?_alloc_past _ _ _ (lt_of_blk hE11)).trans k5
                       obtain ⟨ao10, c10, χ3, w10, hrun, hx3, hm3, hi3, q1, q2, q3⟩ := append_tree hd9.inv (l := l4) (by omega) hTx.l4.1 hTx.l4.2.2 hTx.r4 hT2 59
                       have hs910 := StepD.of_mem (D := D) hx3 hm3
                       obtain ⟨hE12, hnE3⟩ := hs910.keep hd9.inv hE11 hED hnE2
                       obtain ⟨hE4j, hn43⟩ := hs910.keep hd9.inv hE4i hDn hn42
                       have hd10 := hd9.stepM hx3 hm3 hi3
                       have hs10 := (hsd.trans hs9).trans hs910
                       have k6 : w10.cell? ⟨E, 4, none⟩ = some (.slice ao4 l4 c4) := by rw [cell?_blk hE12]; rfl
                       have k6f : w10.frozen? ⟨E, 4, none⟩ = false := by rw [frozen?_blk hE12]; simp
                       have HM : LoopI χ w D w.heap.size E l3 k' (w10.setCell ⟨E, 4, none⟩ (.slice ao10 (l4 + 1) c10)) := by
                         rw [setCell_blk hE12]
                         exact ⟨χ3, vc1, vt1, vb1, ao10, l4 + 1, c10, ao9, l9, c9, cnt9, by rw [setBlk_get (lt_of_blk hE12), if_pos rfl]; rfl, ⟨hT.c0, hT.t0, hT.l3, hT.r3, ⟨q1, by unfold LB; omega, q2⟩, q3⟩, by omega, hd10.setOther hE12 hED hnE3 _, by omega, by omega, hs10.setOther (lt_of_blk hE12) (by omega) _, hnE3, by rw [setBlk_get (lt_of_blk hE12), if_neg (by omega)]; exact hE4j, hn43⟩
                       clear hE11 hE4i hE12 hE4j hd9 hd10 hs9 hs910 hs10 hTx hT2 hi3 hx3 hm3 q3
                       refine .inl ⟨_, rfl, ?_⟩)
                    | (refine step_append_run (vs := .slice ao4 l4 c4) (vx := .slice (some ⟨w9.heap.size, 0, none⟩) 1 1) rfl (.tmp 76) (.tmp 81) 59 59 rfl (by go_simp) (by go_simp) hrun ?_))
                  all_goals
                    go_wp2_with fail
                    go_roundg k'
                    case measure => exact Nat.lt_succ_self k'
                    exact HM
          | true =>
            have k2 : w6.cell? ⟨E, 2, none⟩ = some (.bool vb) := by rw [cell?_blk hE8]; rfl
            cases vb with
            | true =>
              have htake := take_any (n := n) hd6 (by omega)
              have hl36 := hd6.lc
              have hc36 := hd6.cc
              have hl65 := hd6.ll
              have hrow3 := hd6.row
              go_wp2_with fail
              refine htake.mono ?_
              clear htake
              rintro e w7 ⟨hg7, (⟨hnl, rfl, ao5, hd7⟩ | hR)⟩
              rotate_left
              · obtain ⟨n, n0, n1, rfl⟩ := hR
                exact ⟨rfl, elem_raised (raised_mk n0 n1) (hs6.trans (StepD.of_grown hg7)) (inv_grownD hd6.inv hd6.nA hg7) hd6.nA⟩
              have hs7 := hs6.trans (StepD.of_grown (χ := χ) hg7)
              have hE9 := (hg7.block _ (lt_of_blk hE8) (fun e => hED (by cases e; rfl))).trans hE8
              have hE4g := (hg7.block _ (lt_of_blk hE4f) (fun e => hDn (by cases e; rfl))).trans hE4f
              have hc0 := hd7.c0
              have hf0 := hd7.f 0
              have hrow5 := hd7.row
              have hl57 := hd7.lc
              have hc57 := hd7.cc
              obtain ⟨hd7', hg7'⟩ := hd7.put (ao' := ao3) (l' := n) (c' := c3) (by omega) hc36 (by omega) hrow3
              have hs7' := hs7.trans (StepD.of_grown (χ := χ) hg7')
              have hE9' := (hg7'.block _ (lt_of_blk hE9) (fun e => hED (by cases e; rfl))).trans hE9
              have hE4g' := (hg7'.block _ (lt_of_blk hE4g) (fun e => hDn (by cases e; rfl))).trans hE4g
              clear hE8 hE4f hE9 hE4g hd6 hd7 hg7 hg7' hs6 hs7 hgw6
              go_wp2_with fail
              clear hc0 hf0
              generalize w7.setCell ⟨D, 0, none⟩ (.slice ao3 n c3) = w8' at *
              go_loopg [] n (fun k wr => LoopI χ w D w.heap.size E n k wr)
              case atStart => exact ⟨χ, vc, t, true, none, 0, 0, ao3, n, c3, cnt + 1, hE9', ⟨hx64', ⟨ht0, ht1⟩, ⟨Nat.le_refl _, by unfold LB; omega, by unfold CB; omega⟩, rfl, ⟨Nat.le_refl _, by unfold LB; omega, by unfold CB; omega⟩, rfl⟩, by omega, hd7', Nat.le_refl _, Nat.le_refl _, hs7', hnA6, hE4g', hnA⟩
              case round =>
                clear hE9' hE4g' hd7' hs7'
                obtain ⟨χ1, vc1, vt1, vb1, ao4, l4, c4, ao5', l5, c5, cnt5, hE10, hT, hl4, hd8, hlk, hlm, hs8, hnE, hE4h, hn4⟩ := hrel
                have q0 := hd8.c0
                by_cases hz : l5 = 0
                · have hff := hd8.f 0
                  obtain ⟨hd10, hg10⟩ := hd8.put (ao' := ao5) (l' := l3 - n) (c' := c3 - n) hl57 hc57 (by omega) (hrow5.ext hs8.ext hs8.ext.A (fun _ h => h))
                  have HM : Mid2 χ w D l w.heap.size E (wr.setCell ⟨D, 0, none⟩ (.slice ao5 (l3 - n) (c3 - n))) := ⟨χ1, vc1, vt1, vb1, none, 0, 0, ao4, l4, c4, ao5, l3 - n, c3 - n, cnt5, (hg10.block _ (lt_of_blk hE10) (fun e => hED (by cases e; rfl))).trans hE10, hT, by omega, hd10, by omega, hs8.trans (StepD.of_grown (χ := χ1) hg10), hnE, (hg10.block _ (lt_of_blk hE4h) (fun e => hDn (by cases e; rfl))).trans hE4h, hn4⟩
                  subst hz
                  clear hE10 hE4h hd8 hd10 hg10
                  go_wp2_with fail
                  go_meet
                  exact HM
                · have hpos : (0 : Int) < (l5 : Int) := by omega
                  have hpos2 : decide ((0 : Int) < (l5 : Int)) = true := by simp; omega
                  cases gk with
                  | zero => omega
                  | succ k' =>
                  have hlk' : l5 ≤ k' + 1 := hlk
                  have hwr : IntKind.i64.wrap ((dp : Int) + 1) = (dp : Int) + 1 := wrap_id (by show (-9223372036854775808 : Int) ≤ _; omega) (by show _ ≤ (9223372036854775807 : Int); omega)
                  have hdd := hd8.grown (grown_drew0 wr)
                  have hih := ih (dp + 1) (by omega) hdd
                  rw [show ((dp + 1 : Nat) : Int) = (dp : Int) + 1 from rfl] at hih
                  have hEd : wr.drew.heap[E]? = some (.cells #[.int .u8 vc1, .int .u32 vt1, .bool vb1, .slice none 0 0, .slice ao4 l4 c4] 61 (0, 0)) := hE10
                  have hE4d' : wr.drew.heap[w.heap.size]? = some (.cells #[.int .u8 0, .int .u32 0, .bool false, .slice none 0 0, .slice none 0 0] 61 (0, 0)) := hE4h
                  have hsd := hs8.trans (StepD.of_grown (D := D) (χ := χ1) (grown_some (grown_drew0 wr)))
                  have k4 : wr.drew.cell? ⟨E, 4, none⟩ = some (.slice ao4 l4 c4) := by rw [cell?_blk hEd]; rfl
                  clear hE10 hE4h hs8 hd8
                  go_wp2_with fail
                  go_region_law (first
                    | (refine step_call2 (vx := .pointer (some ⟨D, 0, none⟩)) (vy := .int .i64 ((dp : Int) + 1)) rfl 128 (.tmp 111) (.tmp 113) #[183, 3] rfl element_cal (by go_simp) (by go_simp; try exact hwr) hih (fun e w9 h => ?_)
                       rcases h with ⟨χ2, vc2, vt2, vb2, ao7, l7, c7, ao8, l8, c8, ao9, l9, c9, cnt9, rfl, hT2, hd9, hl9, hs9⟩ | ⟨hR, χ2, hs9, hi9, hA9⟩
                       rotate_left
                       · obtain ⟨n, n0, n1, rfl⟩ := hR
                         exact .inr ⟨_, rfl, rfl, elem_raised (raised_mk n0 n1) (hsd.trans hs9) hi9 hA9⟩
                       obtain ⟨hE11, hnE2⟩ := hs9.keep hdd.inv hEd hED hnE
                       obtain ⟨hE4i, hn42⟩ := hs9.keep hdd.inv hE4d' hDn hn4
                       have hTx := hT.ext hdd.inv.sub hs9.ext
                       have k5 : w9.cell? ⟨E, 4, none⟩ = some (.slice ao4 l4 c4) := by rw [cell?_blk hE11]; rfl
                       have k5a : (w9.alloc (.cells #[.int .u8 vc2, .int .u32 vt2, .bool vb2, .slice ao7 l7 c7, .slice ao8 l8 c8] 61)).cell? ⟨E, 4, none⟩ = some (.slice ao4 l4 c4) := (World.cell?_alloc_past _ _ _ (lt_of_blk hE11)).trans k5
                       obtain ⟨ao10, c10, χ3, w10, hrun, hx3, hm3, hi3, q1, q2, q3⟩ := append_tree hd9.inv (l := l4) (by omega) hTx.l4.1 hTx.l4.2.2 hTx.r4 hT2 59
                       have hs910 := StepD.of_mem (D := D) hx3 hm3
                       obtain ⟨hE12, hnE3⟩ := hs910.keep hd9.inv hE11 hED hnE2
                       obtain ⟨hE4j, hn43⟩ := hs910.keep hd9.inv hE4i hDn hn42
                       have hd10 := hd9.stepM hx3 hm3 hi3
                       have hs10 := (hsd.trans hs9).trans hs910
                       have k6 : w10.cell? ⟨E, 4, none⟩ = some (.slice ao4 l4 c4) := by rw [cell?_blk hE12]; rfl
                       have k6f : w10.frozen? ⟨E, 4, none⟩ = false := by rw [frozen?_blk hE12]; simp
                       have HM : LoopI χ w D w.heap.size E n k' (w10.setCell ⟨E, 4, none⟩ (.slice ao10 (l4 + 1) c10)) := by
                         rw [setCell_blk hE12]
                         exact ⟨χ3, vc1, vt1, vb1, ao10, l4 + 1, c10, ao9, l9, c9, cnt9, by rw [setBlk_get (lt_of_blk hE12), if_pos rfl]; rfl, ⟨hT.c0, hT.t0, hT.l3, hT.r3, ⟨q1, by unfold LB; omega, q2⟩, q3⟩, by omega, hd10.setOther hE12 hED hnE3 _, by omega, by omega, hs10.setOther (lt_of_blk hE12) (by omega) _, hnE3, by rw [setBlk_get (lt_of_blk hE12), if_neg (by omega)]; exact hE4j, hn43⟩
                       clear hE11 hE4i hE12 hE4j hd9 hd10 hs9 hs910 hs10 hTx hT2 hi3 hx3 hm3 q3
                       refine .inl ⟨_, rfl, ?_⟩)
                    | (refine step_append_run (vs := .slice ao4 l4 c4) (vx := .slice (some ⟨w9.heap.size, 0, none⟩) 1 1) rfl (.tmp 110) (.tmp 115) 59 59 rfl (by go_simp) (by go_simp) hrun ?_))
                  all_goals
                    go_wp2_with fail
                    go_roundg k'
                    case measure => exact Nat.lt_succ_self k'
                    exact HM
            | false =>
              go_wp2_with fail
              have htake := take_any (n := n) hd6 (by omega)
              refine htake.mono ?_
              clear htake
              rintro e w7 ⟨hg7, (⟨hnl, rfl, ao5, hd7⟩ | hR)⟩
              rotate_left
              · obtain ⟨n, n0, n1, rfl⟩ := hR
                exact ⟨rfl, elem_raised (raised_mk n0 n1) (hs6.trans (StepD.of_grown hg7)) (inv_grownD hd6.inv hd6.nA hg7) hd6.nA⟩
              have hs7 := hs6.trans (StepD.of_grown (χ := χ) hg7)
              have hE9 := (hg7.block _ (lt_of_blk hE8) (fun e => hED (by cases e; rfl))).trans hE8
              have hE4g := (hg7.block _ (lt_of_blk hE4f) (fun e => hDn (by cases e; rfl))).trans hE4f
              have hclone := bclone_call (l := n) hd7.inv (by omega) (by have := hd6.lc; omega) hd6.cc hd6.row
              clear hE8 hE4f hd6 hg7 hs6 hgw6
              go_wp2_with fail
              refine hclone.mono ?_
              clear hclone
              rintro e w8 ⟨ao6, c6, χ6, rfl, hx6, hm6, hi6, q1, q2, q3⟩
              have hs68 := StepD.of_mem (D := D) hx6 hm6
              obtain ⟨hE10, hnA6'⟩ := hs68.keep hd7.inv hE9 hED hnA6
              obtain ⟨hE4h, hnA'⟩ := hs68.keep hd7.inv hE4g hDn hnA
              have hd8 := hd7.stepM hx6 hm6 hi6
              have hs8 := hs7.trans hs68
              have hclip := bclip_call (l := n) hi6 (by omega) q1 q2 q3
              clear hE9 hE4g hd7 hs68 hs7
              go_wp2_with fail
              refine hclip.mono ?_
              clear hclip
              rintro e w9 ⟨ao7, c7, χ7, rfl, hx7, hm7, hi7, q4, q5, q6⟩
              have hs79 := StepD.of_mem (D := D) hx7 hm7
              obtain ⟨hE11, hnA7⟩ := hs79.keep hd8.inv hE10 hED hnA6'
              obtain ⟨hE4i, hnA8⟩ := hs79.keep hd8.inv hE4h hDn hnA'
              have hd9 := hd8.stepM hx7 hm7 hi7
              have hs9 := hs8.trans hs79
              have k3 : w9.cell? ⟨E, 3, none⟩ = some (.slice none 0 0) := by rw [cell?_blk hE11]; rfl
              have k3f : w9.frozen? ⟨E, 3, none⟩ = false := by rw [frozen?_blk hE11]; simp
              have HM : Mid2 χ w D l w.heap.size E (w9.setCell ⟨E, 3, none⟩ (.slice ao7 n c7)) := by
                rw [setCell_blk hE11]
                exact ⟨χ7, vc, t, false, ao7, n, c7, none, 0, 0, ao5, l3 - n, c3 - n, cnt + 1, by rw [setBlk_get (lt_of_blk hE11), if_pos rfl]; rfl, ⟨hx64', ⟨ht0, ht1⟩, ⟨q4, by unfold LB; omega, q5⟩, q6, ⟨Nat.le_refl _, by unfold LB; omega, by unfold CB; omega⟩, rfl⟩, by omega,
                  hd9.setOther hE11 hED hnA7 _, by omega, hs9.setOther (lt_of_blk hE11) (by omega) _, hnA7, by rw [setBlk_get (lt_of_blk hE11), if_neg (by omega)]; exact hE4i, hnA8⟩
              clear hE10 hE11 hE4h hE4i hd8 hd9 hs8 hs9 hs79
              go_wp2_with fail
              go_meet
              exact HM
        case rest =>
          obtain ⟨χ1, vc1, vt1, vb1, ao5, l5, c5, ao6, l6, c6, ao7, l7, c7, cnt7, hE9, hT, hl6, hd7, hl7, hs7, hnE, hE4g, hn4⟩ := hcut
          have hclip := tclip_call (l := l6) hd7.inv (by omega) hT.l4.1 hT.l4.2.2 hT.r4
          have k4 : wc.cell? ⟨E, 4, none⟩ = some (.slice ao6 l6 c6) := by rw [cell?_blk hE9]; rfl
          clear hE8 hE4f hd6 hgw6
          go_wp2_with fail
          refine hclip.mono ?_
          clear hclip k4
          rintro e w8 ⟨ao8, c8, χ2, rfl, hx8, hm8, hi8, q1, q2, q3⟩
          have hs78 := StepD.of_mem (D := D) hx8 hm8
          obtain ⟨hE10, hnE2⟩ := hs78.keep hd7.inv hE9 hED hnE
          obtain ⟨hE4h, hn42⟩ := hs78.keep hd7.inv hE4g hDn hn4
          have hd8 := hd7.stepM hx8 hm8 hi8
          have hs8 := hs7.trans hs78
          have hT2 := hT.ext hd7.inv.sub hx8
          have k4 : w8.cell? ⟨E, 4, none⟩ = some (.slice ao6 l6 c6) := by rw [cell?_blk hE10]; rfl
          have k4f : w8.frozen? ⟨E, 4, none⟩ = false := by rw [frozen?_blk hE10]; simp
          have HD := Lib.hid (hd8.setOther hE10 hED hnE2 (.cells #[.int .u8 vc1, .int .u32 vt1, .bool vb1, .slice ao5 l5 c5, .slice ao8 l6 c8] 61 (0, 0)))
          have HS := Lib.hid (hs8.setOther (lt_of_blk hE10) (by omega) (.cells #[.int .u8 vc1, .int .u32 vt1, .bool vb1, .slice ao5 l5 c5, .slice ao8 l6 c8] 61 (0, 0)))
          have hset : w8.setCell ⟨E, 4, none⟩ (.slice ao8 l6 c8) = setBlk w8 E (.cells #[.int .u8 vc1, .int .u32 vt1, .bool vb1, .slice ao5 l5 c5, .slice ao8 l6 c8] 61 (0, 0)) := by rw [setCell_blk hE10]; rfl
          have hE11 : (setBlk w8 E (.cells #[.int .u8 vc1, .int .u32 vt1, .bool vb1, .slice ao5 l5 c5, .slice ao8 l6 c8] 61 (0, 0))).heap[E]? = some (.cells #[.int .u8 vc1, .int .u32 vt1, .bool vb1, .slice ao5 l5 c5, .slice ao8 l6 c8] 61 (0, 0)) := by rw [setBlk_get (lt_of_blk hE10), if_pos rfl]
          have hE4i : (setBlk w8 E (.cells #[.int .u8 vc1, .int .u32 vt1, .bool vb1, .slice ao5 l5 c5, .slice ao8 l6 c8] 61 (0, 0))).heap[w.heap.size]? = some (.cells #[.int .u8 0, .int .u32 0, .bool false, .slice none 0 0, .slice none 0 0] 61 (0, 0)) := by rw [setBlk_get (lt_of_blk hE10), if_neg (by omega)]; exact hE4h
          have HB := Lib.hid hE11
          have HC := Lib.hid hE4i
          clear hE11 hE4i hE9 hE4g hE4h
          go_upto_region 21 with fail
          clear hset k4 k4f hE10
          have hd9 := HD.out
          have hs9 := HS.out
          have hE11 := HB.out
          have hE4i := HC.out
          clear HD HS HB HC
          generalize setBlk w8 E (.cells #[.int .u8 vc1, .int .u32 vt1, .bool vb1, .slice ao5 l5 c5, .slice ao8 l6 c8] 61 (0, 0)) = w9 at *
          have k0 : w9.cell? ⟨E, 0, none⟩ = some (.int .u8 vc1) := by rw [cell?_blk hE11]; rfl
          have k1 : w9.cell? ⟨E, 1, none⟩ = some (.int .u32 vt1) := by rw [cell?_blk hE11]; rfl
          have k2 : w9.cell? ⟨E, 2, none⟩ = some (.bool vb1) := by rw [cell?_blk hE11]; rfl
          have k3 : w9.cell? ⟨E, 3, none⟩ = some (.slice ao5 l5 c5) := by rw [cell?_blk hE11]; rfl
          have k4 : w9.cell? ⟨E, 4, none⟩ = some (.slice ao8 l6 c8) := by rw [cell?_blk hE11]; rfl
          have m0 : w9.cell? ⟨w.heap.size, 0, none⟩ = some (.int .u8 0) := by rw [cell?_blk hE4i]; rfl
          have m1 : w9.cell? ⟨w.heap.size, 1, none⟩ = some (.int .u32 0) := by rw [cell?_blk hE4i]; rfl
          have m2 : w9.cell? ⟨w.heap.size, 2, none⟩ = some (.bool false) := by rw [cell?_blk hE4i]; rfl
          have m3 : w9.cell? ⟨w.heap.size, 3, none⟩ = some (.slice none 0 0) := by rw [cell?_blk hE4i]; rfl
          have m4 : w9.cell? ⟨w.heap.size, 4, none⟩ = some (.slice none 0 0) := by rw [cell?_blk hE4i]; rfl
          have f4 : ∀ i, w9.frozen? ⟨w.heap.size, i, none⟩ = false := fun i => by rw [frozen?_blk hE4i]; simp
          have f0 := f4 0
          have f1 := f4 1
          have f2 := f4 2
          have f3 := f4 3
          have f5 := f4 4
          clear f4 hE11
          go_wp2
          rw [set5 hE4i]
          have hlt4 := lt_of_blk hE4i
          have hd10 := hd9.setOther hE4i hDn hn42 (.cells (treeV vc1 vt1 vb1 ao5 l5 c5 ao8 l6 c8) 61 (0, 0))
          have hs10 := hs9.setOther hlt4 (Nat.le_refl _) (.cells (treeV vc1 vt1 vb1 ao5 l5 c5 ao8 l6 c8) 61 (0, 0))
          have hE4j : (setBlk w9 w.heap.size (.cells (treeV vc1 vt1 vb1 ao5 l5 c5 ao8 l6 c8) 61 (0, 0))).heap[w.heap.size]? = some (.cells (treeV vc1 vt1 vb1 ao5 l5 c5 ao8 l6 c8) 61 (0, 0)) := by rw [setBlk_get hlt4, if_pos rfl]
          change bodyPost _ _ _ _ _ (setBlk w9 w.heap.size (.cells (treeV vc1 vt1 vb1 ao5 l5 c5 ao8 l6 c8) 61 (0, 0)))
          generalize setBlk w9 w.heap.size (.cells (treeV vc1 vt1 vb1 ao5 l5 c5 ao8 l6 c8) 61 (0, 0)) = wf at *
          have r0 : wf.cell? ⟨w.heap.size, 0, none⟩ = some (.int .u8 vc1) := by rw [cell?_blk hE4j]; rfl
          have r1 : wf.cell? ⟨w.heap.size, 1, none⟩ = some (.int .u32 vt1) := by rw [cell?_blk hE4j]; rfl
          have r2 : wf.cell? ⟨w.heap.size, 2, none⟩ = some (.bool vb1) := by rw [cell?_blk hE4j]; rfl
          have r3 : wf.cell? ⟨w.heap.size, 3, none⟩ = some (.slice ao5 l5 c5) := by rw [cell?_blk hE4j]; rfl
          have r4 : wf.cell? ⟨w.heap.size, 4, none⟩ = some (.slice ao8 l6 c8) := by rw [cell?_blk hE4j]; rfl
          clear k0 k1 k2 k3 k4 m0 m1 m2 m3 m4 f0 f1 f2 f3 f5 hE4i hE4j
          exact bodyPost_ret (v := .agg #[.int .u8 vc1, .int .u32 vt1, .bool vb1, .slice ao5 l5 c5, .slice ao8 l6 c8]) (by simp [results, Tryz.results128, go_sem, r0, r1, r2, r3, r4]) rfl
            (.inl ⟨χ2, vc1, vt1, vb1, ao5, l5, c5, ao8, l6, c8, ao7, l7, c7, cnt7, rfl, ⟨hT2.c0, hT2.t0, hT2.l3, hT2.r3, ⟨q1, by unfold LB; omega, q2⟩, q3⟩, hd10, hl7, hs10⟩)

end Go.Sx

/-
  The reading of tagged elements: 'First' (which recovers), 'Decode'.
-/
namespace Go.Sx
open Go Go.Proofs

set_option maxRecDepth 100000 in
set_option maxHeartbeats 1600000 in
theorem first1_idle {E N R : Nat} {w : World} : CallsD Tryz.prog 127 #[.pointer (some ⟨E, 0, none⟩), .pointer (some ⟨N, 0, none⟩), .pointer (some ⟨R, 0, none⟩)] .returning w fun e u' w' => e = .returned (.tuple #[]) ∧ u' = .returning ∧ w' = w := by
  refine callsD_of_wpS Tryz.func127 rfl fun c₀ cs hu => ?_
  apply wpS_seq
  apply wpS_region
  simp [wpOpsS, go_sem, recoverD, hu, Tryz.ntmps127, Exit.thenS]
  refine wpS_of_wp ?_
  go_wp2
  cases c₀
  simp_all [bodyPostS, results, Tryz.results127]

/-- three variables written: an element, a number, an error -/
structure Wrote (E N R : Nat) (c : Array Value) (n r : Int) (w w' : World) : Prop where
  os : w'.os = w.os
  tape : w'.tape = w.tape
  output : w'.output = w.output
  size : w'.heap.size = w.heap.size
  same : ∀ b, b ≠ E → b ≠ N → b ≠ R → w'.heap[b]? = w.heap[b]?
  atE : w'.heap[E]? = some (.cells c 61 (0, 0))
  atN : w'.heap[N]? = some (.cells #[.int .i64 n] 3 (0, 0))
  atR : w'.heap[R]? = some (.cells #[.int .i64 r] 36 (0, 0))

theorem wrote_mk {E N R : Nat} {w : World} {n0 r0 n r : Int} {z0 z1 z2 z3 z4 a0 a1 a2 a3 a4 : Value} (hE : w.heap[E]? = some (.cells #[z0, z1, z2, z3, z4] 61 (0, 0))) (hN : w.heap[N]? = some (.cells #[.int .i64 n0] 3 (0, 0))) (hR : w.heap[R]? = some (.cells #[.int .i64 r0] 36 (0, 0))) (hEN : E ≠ N) (hER : E ≠ R) (hNR : N ≠ R) :
    Wrote E N R #[a0, a1, a2, a3, a4] n r w ((((((((w.setCell ⟨E, 0, none⟩ a0).setCell ⟨E, 1, none⟩ a1).setCell ⟨E, 2, none⟩ a2).setCell ⟨E, 3, none⟩ a3).setCell ⟨E, 4, none⟩ a4)).setCell ⟨N, 0, none⟩ (.int .i64 n)).setCell ⟨R, 0, none⟩ (.int .i64 r)) := by
  rw [set5 hE]
  have hlE := lt_of_blk hE
  have hE1 : (setBlk w E (.cells #[a0, a1, a2, a3, a4] 61 (0, 0))).heap[E]? = some (.cells #[a0, a1, a2, a3, a4] 61 (0, 0)) := by rw [setBlk_get hlE, if_pos rfl]
  have hN1 : (setBlk w E (.cells #[a0, a1, a2, a3, a4] 61 (0, 0))).heap[N]? = some (.cells #[.int .i64 n0] 3 (0, 0)) := by rw [setBlk_get hlE, if_neg (fun e => hEN e.symm)]; exact hN
  have hR1 : (setBlk w E (.cells #[a0, a1, a2, a3, a4] 61 (0, 0))).heap[R]? = some (.cells #[.int .i64 r0] 36 (0, 0)) := by rw [setBlk_get hlE, if_neg (fun e => hER e.symm)]; exact hR
  have hs1 : (setBlk w E (.cells #[a0, a1, a2, a3, a4] 61 (0, 0))).heap.size = w.heap.size := setBlk_size ..
  have hm1 : ∀ b, b ≠ E → (setBlk w E (.cells #[a0, a1, a2, a3, a4] 61 (0, 0))).heap[b]? = w.heap[b]? := fun b h => by rw [setBlk_get hlE, if_neg h]
  have ho : (setBlk w E (.cells #[a0, a1, a2, a3, a4] 61 (0, 0))).os = w.os ∧ (setBlk w E (.cells #[a0, a1, a2, a3, a4] 61 (0, 0))).tape = w.tape ∧ (setBlk w E (.cells #[a0, a1, a2, a3, a4] 61 (0, 0))).output = w.output := ⟨rfl, rfl, rfl⟩
  generalize setBlk w E (.cells #[a0, a1, a2, a3, a4] 61 (0, 0)) = w1 at *
  have hlN := lt_of_blk hN1
  have hlR := lt_of_blk hR1
  rw [setCell_blk hN1]
  have hR2 : (setBlk w1 N (.cells (#[Value.int .i64 n0].setIfInBounds 0 (.int .i64 n)) 3 (0, 0))).heap[R]? = some (.cells #[.int .i64 r0] 36 (0, 0)) := by rw [setBlk_get hlN, if_neg (fun e => hNR e.symm)]; exact hR1
  rw [setCell_blk hR2]
  have hl2 := lt_of_blk hR2
  refine ⟨ho.1, ho.2.1, ho.2.2, by rw [setBlk_size, setBlk_size]; exact hs1, fun b e1 e2 e3 => ?_, ?_, ?_, ?_⟩
  · rw [setBlk_get hl2, if_neg e3, setBlk_get hlN, if_neg e2]; exact hm1 b e1
  · rw [setBlk_get hl2, if_neg hER, setBlk_get hlN, if_neg hEN]; exact hE1
  · rw [setBlk_get hl2, if_neg hNR, setBlk_get hlN, if_pos rfl]; rfl
  · rw [setBlk_get hl2, if_pos rfl]; rfl

theorem und33 : Tryz.prog.underlying 36 = some (.int .i64) := by kernel_rfl

set_option maxRecDepth 100000 in
set_option maxHeartbeats 1600000 in
theorem first1_panicking {E N R : Nat} {w : World} {x n0 r0 : Int} {z0 z1 z2 z3 z4 : Value} {older : List PanicEntry} (hE : w.heap[E]? = some (.cells #[z0, z1, z2, z3, z4] 61 (0, 0))) (hN : w.heap[N]? = some (.cells #[.int .i64 n0] 3 (0, 0))) (hR : w.heap[R]? = some (.cells #[.int .i64 r0] 36 (0, 0))) (hEN : E ≠ N) (hER : E ≠ R) (hNR : N ≠ R) : CallsD Tryz.prog 127 #[.pointer (some ⟨E, 0, none⟩), .pointer (some ⟨N, 0, none⟩), .pointer (some ⟨R, 0, none⟩)] (.panicking ({ v := .iface 36 (.int .i64 x), recovered := false } :: older)) w fun e u' w' =>
    e = .returned (.tuple #[]) ∧ u' = .panicking ({ v := .iface 36 (.int .i64 x), recovered := true } :: older) ∧ Wrote E N R #[.int .u8 0, .int .u32 0, .bool false, .slice none 0 0, .slice none 0 0] 0 x w w' := by
  have f : ∀ {b : Nat} {cs : Array Value} {T : TypeId} (h : w.heap[b]? = some (.cells cs T (0, 0))) (i : Nat), w.frozen? ⟨b, i, none⟩ = false := fun h i => by rw [frozen?_blk h]; simp
  have m0 : w.cell? ⟨E, 0, none⟩ = some z0 := by rw [cell?_blk hE]; rfl
  have m1 : w.cell? ⟨E, 1, none⟩ = some z1 := by rw [cell?_blk hE]; rfl
  have m2 : w.cell? ⟨E, 2, none⟩ = some z2 := by rw [cell?_blk hE]; rfl
  have m3 : w.cell? ⟨E, 3, none⟩ = some z3 := by rw [cell?_blk hE]; rfl
  have m4 : w.cell? ⟨E, 4, none⟩ = some z4 := by rw [cell?_blk hE]; rfl
  have f0 := f hE 0
  have f1 := f hE 1
  have f2 := f hE 2
  have f3 := f hE 3
  have f4 := f hE 4
  have m5 : w.cell? ⟨N, 0, none⟩ = some (.int .i64 n0) := by rw [cell?_blk hN]; rfl
  have m6 : w.cell? ⟨R, 0, none⟩ = some (.int .i64 r0) := by rw [cell?_blk hR]; rfl
  have f5 := f hN 0
  have f6 := f hR 0
  clear f
  refine callsD_of_wpS Tryz.func127 rfl fun c₀ cs hu => ?_
  apply wpS_seq
  apply wpS_region
  simp [wpOpsS, go_sem, recoverD, hu, Tryz.ntmps127, Exit.thenS]
  refine wpS_of_wp ?_
  have ea : ((#[.pointer (some ⟨E, 0, none⟩), .pointer (some ⟨N, 0, none⟩), .pointer (some ⟨R, 0, none⟩)] : Array Value) ++ ((Array.replicate 16 undef).setIfInBounds 3 (Value.iface 36 (.int .i64 x))).setIfInBounds 0 (Value.iface 36 (.int .i64 x))) =
      #[.pointer (some ⟨E, 0, none⟩), .pointer (some ⟨N, 0, none⟩), .pointer (some ⟨R, 0, none⟩), .iface 36 (.int .i64 x), undef, undef, .iface 36 (.int .i64 x), undef, undef, undef, undef, undef, undef, undef, undef, undef, undef, undef, undef] := rfl
  rw [ea]
  clear ea
  have hta : ∀ w, (Instr.typeAssert (.iface 36 (.int .i64 x)) 20 36 true).run Tryz.prog w = .ok (.tuple #[.int .i64 x, .bool true]) w := fun w => by
    simp [Instr.typeAssert, run_underlying und33, go_sem, Result.andThen]
  go_wp2_with fail
  exact ⟨rfl, _, rfl, .tuple #[], by simp [results, Tryz.results127], rfl, rfl, wrote_mk hE hN hR hEN hER hNR⟩

end Go.Sx
