/- Part TgD of a proof: helper lemmas; no conditions. -/
import Derived.Test.YtadhlkgjiccdpaaGreatDoorTgC
import Derived.Deep.DeepCutAuto
import Derived.Deep.CutBlock
import Derived.Deep.RegionLaw

set_option linter.unusedSimpArgs false
set_option linter.unusedVariables false

namespace Go.Sx
open Go Go.Proofs

structure StepD (D : Nat) (χ : Chi) (w : World) (χ' : Chi) (w' : World) : Prop where
  ext : Ext 0 χ χ'
  os : w'.os = w.os
  tape : w'.tape = w.tape
  output : w'.output = w.output
  size : w.heap.size ≤ w'.heap.size
  old : ∀ b, b < w.heap.size → b ≠ D → ¬ χ.F b → w'.heap[b]? = w.heap[b]?
  Fn : ∀ b, χ'.F b → χ.F b ∨ w.heap.size ≤ b
  An : ∀ b, χ'.A b → χ.A b ∨ w.heap.size ≤ b

theorem StepD.of_grown {D : Nat} {χ : Chi} {w w' : World} (h : w.grownBy w' (some D)) : StepD D χ w χ w' :=
  ⟨Ext.refl 0 χ, h.os, h.tape, h.output, h.size, fun b hb hD _ => h.block b hb (fun e => hD (by cases e; rfl)), fun _ h => .inl h, fun _ h => .inl h⟩

theorem StepD.of_mem {D : Nat} {χ χ' : Chi} {w w' : World} (hx : Ext 0 χ χ') (h : MemExt χ w χ' w') : StepD D χ w χ' w' :=
  ⟨hx, h.os, h.tape, h.output, h.size, fun b hb _ hF => h.old b hb hF, h.Fn, h.An⟩

theorem StepD.trans {D : Nat} {χ χ' χ'' : Chi} {w w' w'' : World} (h : StepD D χ w χ' w') (k : StepD D χ' w' χ'' w'') : StepD D χ w χ'' w'' where
  ext := h.ext.trans k.ext
  os := k.os.trans h.os
  tape := k.tape.trans h.tape
  output := k.output.trans h.output
  size := Nat.le_trans h.size k.size
  old := fun b hb hD hF => by
    have h1 : ¬ χ'.F b := fun hb' => by
      rcases h.Fn b hb' with h1 | h1
      · exact hF h1
      · omega
    exact (k.old b (Nat.lt_of_lt_of_le hb h.size) hD h1).trans (h.old b hb hD hF)
  Fn := fun b hb => by
    rcases k.Fn b hb with h1 | h1
    · exact h.Fn b h1
    · exact .inr (Nat.le_trans h.size h1)
  An := fun b hb => by
    rcases k.An b hb with h1 | h1
    · exact h.An b h1
    · exact .inr (Nat.le_trans h.size h1)

theorem StepD.keep {D : Nat} {χ χ' : Chi} {w w' : World} (h : StepD D χ w χ' w') (hi : Inv Tryz.prog χ w) {E : Nat} {o : Obj} (hE : w.heap[E]? = some o) (hD : E ≠ D) (hA : ¬ χ.A E) : w'.heap[E]? = some o ∧ ¬ χ'.A E := by
  have hlt : E < w.heap.size := by
    rcases Nat.lt_or_ge E w.heap.size with h | h
    · exact h
    · rw [Array.getElem?_eq_none h] at hE; cases hE
  refine ⟨(h.old E hlt hD (fun hF => hA (hi.sub E hF))).trans hE, fun hA' => ?_⟩
  rcases h.An E hA' with h1 | h1
  · exact hA h1
  · omega

theorem bits_and_u8 (a b : Int) : 0 ≤ bits BinOp.and .u8 a b ∧ bits BinOp.and .u8 a b ≤ 255 := wrap_range .u8 _

theorem StepD.setOther {D : Nat} {χ χ' : Chi} {w wx : World} (h : StepD D χ w χ' wx) {E : Nat} (hlt : E < wx.heap.size) (hE : w.heap.size ≤ E) (o : Obj) : StepD D χ w χ' (setBlk wx E o) :=
  ⟨h.ext, h.os, h.tape, h.output, by rw [setBlk_size]; exact h.size, fun b hb hD hF => by rw [setBlk_get hlt, if_neg (by omega)]; exact h.old b hb hD hF, h.Fn, h.An⟩

theorem Dec.setOther {χ : Chi} {w : World} {D : Nat} {ao : Option Addr} {l c : Nat} {cnt : Int} (h : Dec χ w D ao l c cnt) {E : Nat} {o : Obj} (hE : w.heap[E]? = some o) (hED : E ≠ D) (hA : ¬ χ.A E) (o' : Obj) : Dec χ (setBlk w E o') D ao l c cnt := by
  have hlt : E < w.heap.size := by
    rcases Nat.lt_or_ge E w.heap.size with h | h
    · exact h
    · rw [Array.getElem?_eq_none h] at hE; cases hE
  exact ⟨h.inv.setOwn hA hlt o', h.nA, by rw [setBlk_get hlt, if_neg (fun e => hED e.symm)]; exact h.at_, h.lc, h.cc, h.ll, h.cn, h.row⟩

theorem grown_setOther {w wx : World} {D E : Nat} (h : w.grownBy wx (some D)) (hlt : E < wx.heap.size) (hE : w.heap.size ≤ E) (o : Obj) : w.grownBy (setBlk wx E o) (some D) :=
  ⟨h.os, h.tape, h.output, by rw [setBlk_size]; exact h.size, fun k hk hn => by rw [setBlk_get hlt, if_neg (by omega)]; exact h.block k hk hn⟩

theorem set5 {w : World} {E T : Nat} {z0 z1 z2 z3 z4 a0 a1 a2 a3 a4 : Value} (h : w.heap[E]? = some (.cells #[z0, z1, z2, z3, z4] T (0, 0))) :
    (((((w.setCell ⟨E, 0, none⟩ a0).setCell ⟨E, 1, none⟩ a1).setCell ⟨E, 2, none⟩ a2).setCell ⟨E, 3, none⟩ a3).setCell ⟨E, 4, none⟩ a4) = setBlk w E (.cells #[a0, a1, a2, a3, a4] T (0, 0)) := by
  have hlt := lt_of_blk h
  have step : ∀ (o o' : Obj), setBlk (setBlk w E o) E o' = setBlk w E o' := fun o o' => by simp [setBlk]
  have g : ∀ o, (setBlk w E o).heap[E]? = some o := fun o => by rw [setBlk_get hlt, if_pos rfl]
  rw [setCell_blk h, setCell_blk (g _), step, setCell_blk (g _), step, setCell_blk (g _), step, setCell_blk (g _), step]
  rfl

theorem element_cal : callable Tryz.prog 128 = true := by kernel_rfl

def Mid1 (χ : Chi) (w : World) (D l : Nat) (cnt : Int) (E4 E : Nat) (vc : Int) (vb : Bool) (wx : World) : Prop :=
  ∃ (t : Int) (ao2 : Option Addr) (l2 c2 : Nat), 0 ≤ t ∧ t ≤ 4294967295 ∧ wx.heap[E]? = some (.cells #[.int .u8 vc, .int .u32 t, .bool vb, .slice none 0 0, .slice none 0 0] 61 (0, 0)) ∧ Dec χ wx D ao2 l2 c2 (cnt + 1) ∧ l2 + 1 ≤ l ∧ w.grownBy wx (some D) ∧ wx.heap[E4]? = some (.cells #[.int .u8 0, .int .u32 0, .bool false, .slice none 0 0, .slice none 0 0] 61 (0, 0))

end Go.Sx
