/- Part HnD of a proof: helper lemmas; no conditions. -/
import Derived.Test.YtnnaehcmchndmaaGreatDoorHnC
import Derived.Deep.AppendLies
import Derived.Maps.OwnSet

set_option linter.unusedSimpArgs false
set_option linter.unusedVariables false

namespace Go.Sx
open Go

structure MGrows (P : Program) (χ : Chi) (w : World) (χ' : Chi) (w' : World) : Prop where
  ext : Ext 0 χ χ'
  mem : MemExt χ w χ' w'
  inv : Inv P χ' w'

theorem MGrows.trans {P : Program} {χ χ' χ'' : Chi} {w w' w'' : World} (h : MGrows P χ w χ' w') (k : MGrows P χ' w' χ'' w'') : MGrows P χ w χ'' w'' := ⟨h.ext.trans k.ext, h.mem.trans k.mem, k.inv⟩

theorem MGrows.plain {P : Program} {χ : Chi} {w w' : World} (hi : Inv P χ w) (hg : w.grownBy w' none) : MGrows P χ w χ w' :=
  ⟨Ext.refl 0 χ, ⟨hg.os, hg.tape, hg.output, hg.size, fun b hb _ => hg.block b hb (by simp), fun _ h => .inl h, fun _ h => .inl h⟩, hi.same fun b hb => hg.block b (hi.lt hb) (by simp)⟩

theorem MGrows.keep {P : Program} {χ χ' : Chi} {w w' : World} (h : MGrows P χ w χ' w') {E : Nat} {o : Obj} (hE : w.heap[E]? = some o) (hF : ¬ χ.F E) : w'.heap[E]? = some o ∧ ¬ χ'.F E := by
  have hlt : E < w.heap.size := by
    rcases Nat.lt_or_ge E w.heap.size with h' | h'
    · exact h'
    · rw [Array.getElem?_eq_none h'] at hE; cases hE
  refine ⟨(h.mem.old E hlt hF).trans hE, fun hF' => ?_⟩
  rcases h.mem.Fn E hF' with h1 | h1
  · exact hF h1
  · omega

theorem MGrows.nA {P : Program} {χ χ' : Chi} {w w' : World} (h : MGrows P χ w χ' w') {E : Nat} (hE : E < w.heap.size) (hA : ¬ χ.A E) : ¬ χ'.A E := fun h2 => by
  rcases h.mem.An E h2 with h1 | h1
  · exact hA h1
  · omega

theorem MGrows.setNew {P : Program} {χ χ' : Chi} {w w' : World} (h : MGrows P χ w χ' w') {E : Nat} (hE : w.heap.size ≤ E) (hn : ¬ χ'.A E) (hlt : E < w'.heap.size) (o : Obj) : MGrows P χ w χ' (setBlk w' E o) := by
  refine ⟨h.ext, ⟨h.mem.os, h.mem.tape, h.mem.output, ?_, ?_, h.mem.Fn, h.mem.An⟩, h.inv.same fun b hb => ?_⟩
  · rw [setBlk_size]; exact h.mem.size
  · intro b hb hF
    rw [setBlk_get hlt, if_neg (by omega)]
    exact h.mem.old b hb hF
  · rw [setBlk_get hlt, if_neg (fun e : b = E => hn (e ▸ hb))]

structure ElemOK (P : Program) (T E : TypeId) (cts : List CT) (z : Value) (bytes : Nat) : Prop where
  und : P.underlying T = some (.slice E)
  info : ∃ i, P.info? E = some i ∧ i.size = cts.length ∧ i.bytes = bytes ∧ i.zero = some z
  pos : 1 ≤ cts.length
  zlen : z.cells.size = cts.length
  zero : ∀ (χ : Chi) (S : Nat → Prop), PerOK P χ S cts z.cells

theorem PerOK.zeros {P : Program} {χ : Chi} {S : Nat → Prop} {cts : List CT} {zs : Array Value} (hl : zs.size = cts.length) (hp : 1 ≤ cts.length) (h : PerOK P χ S cts zs) (n : Nat) : PerOK P χ S cts (Builtin.zeroCells zs n) ∧ (Builtin.zeroCells zs n).size = n * cts.length := by
  refine ⟨fun i v hv => ?_, by rw [size_zeroCells, hl]⟩
  simp only [Builtin.zeroCells, Array.getElem?_map, Array.getElem?_range] at hv
  split at hv
  · simp only [Option.map_some, Option.some.injEq] at hv
    have hm : i % cts.length < zs.size := by rw [hl]; exact Nat.mod_lt _ hp
    obtain ⟨ct, h1, h2⟩ := h (i % cts.length) zs[i % cts.length] (by simp [hm])
    rw [Nat.mod_mod] at h1
    refine ⟨ct, h1, ?_⟩
    have e : v = zs[i % cts.length] := by
      rw [← hv, hl]
      simp [hm]
    rw [e]; exact h2
  · cases hv

theorem append_el {P : Program} {T E : TypeId} {cts : List CT} {z : Value} {bytes : Nat} (hel : ElemOK P T E cts z bytes) {χ : Chi} {w : World} (hi : Inv P χ w) {ao : Option Addr} {l c : Nat} (hlc : l ≤ c) (hcc : c ≤ CB) (hrow : RowOK χ χ.F cts ao c)
    {B : Nat} {vs : Array Value} (hB : w.heap[B]? = some (.cells vs E (0, 0))) (hsz : vs.size = cts.length) (hper : PerOK P χ χ.F cts vs) (hl : l ≤ 100000000) (hby : bytes ≤ 1000) (ty : TypeId) :
    ∃ ao' c' χ' w', (Builtin.append_ #[T, T] ty #[.slice ao l c, .slice (some ⟨B, 0, none⟩) 1 1]).run P w = .ok (.slice ao' (l + 1) c') w' ∧ MGrows P χ w χ' w' ∧ l + 1 ≤ c' ∧ c' ≤ CB ∧ RowOK χ' χ'.F cts ao' c' := by
  obtain ⟨i, hiE, hz1, hz2, hz3⟩ := hel.info
  have hpos := hel.pos
  have hf : ∀ w' : World, w'.heap = w.heap → (Builtin.firstCells i.size 1 (.slice (some ⟨B, 0, none⟩) 1 1)).run P w' = .ok vs w' := fun w' hw => by
    have hb : w'.heap[B]? = some (.cells vs E (0, 0)) := by rw [hw]; exact hB
    have := run_loadCells_blk P hb 0 cts.length (by omega)
    rw [hz1]
    show (loadCells ⟨B, 0, none⟩ (1 * cts.length)).run P w' = _
    rw [Nat.one_mul, this]
    congr 1
    rw [Nat.zero_add, ← hsz, Array.extract_size]
  have hmul : (l + 1) * bytes ≤ 140737488355328 := by
    have : (l + 1) * bytes ≤ 100000001 * 1000 := Nat.mul_le_mul (by omega) hby
    omega
  by_cases hroom : l + 1 ≤ c
  · cases ao with
    | none => have : c = 0 := hrow; omega
    | some ad =>
      obtain ⟨b, off, sp⟩ := ad
      have hsp : sp = none := hrow.1
      subst hsp
      obtain ⟨w', hst, hi', hm'⟩ := write_row hi hrow hroom hpos (vs := vs) (by rw [hsz, Nat.one_mul]) hper
      have hr := run_append_in (P := P) (w := w) (w' := w') (ts := #[T, T]) (ty := ty) (base := some ⟨b, off, none⟩) (sLen := l) (sCap := c) (n := 1) (x := .slice (some ⟨B, 0, none⟩) 1 1) rfl rfl hel.und hel.und rfl hiE rfl (hf w rfl) hroom (by
        show (storeCells ((⟨b, off, none⟩ : Addr).add (l * i.size)) vs.toList).run P w = _
        rw [hz1, Addr.add_none]
        exact hst)
      exact ⟨_, c, χ, w', hr, ⟨Ext.refl 0 χ, hm', hi'⟩, hroom, hcc, hrow⟩
  · have hold : ∃ old : Array Value, (Builtin.firstCells i.size l (.slice ao l c)).run P w.drew = .ok old w.drew ∧ old.size = l * cts.length ∧ PerOK P χ χ.F cts old := by
      cases ao with
      | none =>
        have h0 : c = 0 := hrow
        obtain rfl : l = 0 := by omega
        exact ⟨#[], rfl, by simp, PerOK.empty⟩
      | some ad =>
        obtain ⟨vs, h1, h2, h3⟩ := load_row hi (fr := true) hrow hlc hpos
        refine ⟨vs, ?_, h2, h3⟩
        rw [hz1]
        exact h1 w.drew rfl
    obtain ⟨old, ho1, ho2, ho3⟩ := hold
    obtain ⟨cap, c1, c2, hr⟩ := run_append_out (P := P) (w := w) (ts := #[T, T]) (ty := ty) (base := ao) (sLen := l) (sCap := c) (n := 1) (x := .slice (some ⟨B, 0, none⟩) 1 1) rfl rfl hel.und hel.und rfl hiE hz3 rfl hroom (by unfold CB; omega) (by rw [hz2]; exact hmul) ho1 (hf w.drew rfl)
    obtain ⟨z1, z2⟩ := PerOK.zeros hel.zlen hpos (hel.zero χ χ.F) (cap - (l + 1))
    have hall : PerOK P χ χ.F cts (old ++ vs ++ Builtin.zeroCells z.cells (cap - (l + 1))) :=
      (ho3.append ho2 hper).append (a := l + 1) (by rw [Array.size_append, ho2, hsz, Nat.add_mul, Nat.one_mul]) z1
    have hsize : (old ++ vs ++ Builtin.zeroCells z.cells (cap - (l + 1))).size = cap * cts.length := by
      rw [Array.size_append, Array.size_append, ho2, hsz, z2, ← Nat.succ_mul, ← Nat.add_mul]; congr 1; omega
    have hi1 := hi.drew
    refine ⟨_, cap, χ.alloc w.drew.heap.size true (perK cts cap), _, hr, ⟨Ext.alloc hi1 _ _ _, (MemExt.drew χ w).trans (MemExt.alloc ..), ?_⟩, c1, c2, perK_row (w := w.drew) (fr := true)⟩
    exact Inv.alloc hi1 true _ _ _ _ (hall.typed hsize) (fun _ i hi h => by simp at h)

theorem wpList_run_append {P : Program} {ops : Array Oper} {rest : List Oper} {o : Oper} {a : Act} {w : World} {Q : Exit → Act → World → Prop} (hgd : o.guard = none) (s x : Operand) (t t2 : TypeId)
    (hop : o.op = .call { callee := .builtin .append, args := #[s, x], argTypes := #[t, t2] }) {vs vx v : Value} {w' : World} (hs : a.eval s = vs) (hx : a.eval x = vx)
    (hrun : (Builtin.append_ #[t, t2] o.type #[vs, vx]).run P w = .ok v w') (h : wpList P ops Q rest (a.put o.dst v) w') : wpList P ops Q (o :: rest) a w :=
  wpList_plain hgd fun K hK => by
    have hr := run_call_builtin (P := P) (a := a) (w := w) (w' := w') (o := o) (b := .append) (v := v) hop rfl (s := Builtin.append_ #[t, t2] o.type #[vs, vx]) (fun consts => by simp [hs, hx]; rfl) hrun
    unfold Oper.wp
    rw [hr]
    exact hK _ _ h

theorem wpList_append_el {P : Program} {T E : TypeId} {cts : List CT} {z : Value} {bytes : Nat} (hel : ElemOK P T E cts z bytes) (hby : bytes ≤ 1000) {ops : Array Oper} {rest : List Oper} {o : Oper} {a : Act} {w : World} {Q : Exit → Act → World → Prop} (hgd : o.guard = none) (s x : Operand)
    (hop : o.op = .call { callee := .builtin .append, args := #[s, x], argTypes := #[T, T] }) {χ : Chi} (hi : Inv P χ w) {ao : Option Addr} {l c : Nat} {vs : Array Value} (hs : a.eval s = .slice ao l c) (hx : a.eval x = .slice (some ⟨w.heap.size, 0, none⟩) 1 1)
    (hlc : l ≤ c) (hcc : c ≤ CB) (hrow : RowOK χ χ.F cts ao c) (hl : l ≤ 100000000) (hsz : vs.size = cts.length) (hper : PerOK P χ χ.F cts vs)
    (h : ∀ ao' c' χ' w', MGrows P χ w χ' w' → l + 1 ≤ c' → c' ≤ CB → RowOK χ' χ'.F cts ao' c' → wpList P ops Q rest (a.put o.dst (.slice ao' (l + 1) c')) w') :
    wpList P ops Q (o :: rest) a (w.alloc (.cells vs E)) := by
  have hg := grown_alloc w (.cells vs E)
  have G := MGrows.plain hi hg
  obtain ⟨ao', c', χ', w', hrun, G2, h4, h5, h6⟩ := append_el hel G.inv hlc hcc hrow (B := w.heap.size) (vs := vs) (by rw [alloc_get, if_pos rfl]) hsz hper hl hby o.type
  exact wpList_run_append hgd s x T T hop hs hx hrun (h ao' c' χ' w' (G.trans G2) h4 h5 h6)

theorem MGrows.new {P : Program} {χ : Chi} {w : World} (hi : Inv P χ w) {cts : List CT} {n : Nat} {vs : Array Value} (hsz : vs.size = n * cts.length) (hper : PerOK P χ χ.F cts vs) (E : TypeId) :
    MGrows P χ w (χ.alloc w.heap.size true (perK cts n)) (w.alloc (.cells vs E)) ∧ RowOK (χ.alloc w.heap.size true (perK cts n)) (χ.alloc w.heap.size true (perK cts n)).F cts (some ⟨w.heap.size, 0, none⟩) n :=
  ⟨⟨Ext.alloc hi _ _ _, MemExt.alloc .., Inv.alloc hi true _ _ _ _ (hper.typed hsz) (fun _ i hi h => by simp at h)⟩, perK_row (w := w) (fr := true)⟩

theorem set2 {w : World} {b E : Nat} {x0 x1 v0 v1 : Value} (h : w.heap[b]? = some (.cells #[x0, x1] E (0, 0))) : (w.setCell ⟨b, 0, none⟩ v0).setCell ⟨b, 1, none⟩ v1 = setBlk w b (.cells #[v0, v1] E (0, 0)) := by
  have hlt := lt_of_blk h
  rw [setCell_blk h]
  have h2 : (setBlk w b (.cells (#[x0, x1].setIfInBounds 0 v0) E (0, 0))).heap[b]? = some (.cells #[v0, x1] E (0, 0)) := by rw [setBlk_get hlt, if_pos rfl]; rfl
  rw [setCell_blk h2]
  simp [setBlk]

theorem set5g {w : World} {E T : Nat} {z0 z1 z2 z3 z4 a0 a1 a2 a3 a4 : Value} (h : w.heap[E]? = some (.cells #[z0, z1, z2, z3, z4] T (0, 0))) :
    (((((w.setCell ⟨E, 0, none⟩ a0).setCell ⟨E, 1, none⟩ a1).setCell ⟨E, 2, none⟩ a2).setCell ⟨E, 3, none⟩ a3).setCell ⟨E, 4, none⟩ a4) = setBlk w E (.cells #[a0, a1, a2, a3, a4] T (0, 0)) := by
  have hlt := lt_of_blk h
  have step : ∀ (o o' : Obj), setBlk (setBlk w E o) E o' = setBlk w E o' := fun o o' => by simp [setBlk]
  have g : ∀ o, (setBlk w E o).heap[E]? = some o := fun o => by rw [setBlk_get hlt, if_pos rfl]
  rw [setCell_blk h, setCell_blk (g _), step, setCell_blk (g _), step, setCell_blk (g _), step, setCell_blk (g _), step]
  rfl

theorem grown_setBlkN {w w' : World} (hg : w.grownBy w' none) {E : Nat} (hE : w.heap.size ≤ E) (hlt : E < w'.heap.size) (o : Obj) : w.grownBy (setBlk w' E o) none :=
  ⟨hg.os, hg.tape, hg.output, by rw [setBlk_size]; exact hg.size, fun b hb _ => by rw [setBlk_get hlt, if_neg (by omega)]; exact hg.block b hb (by simp)⟩

end Go.Sx

namespace Go.Sx
open Go Go.Maps

open Classical in
noncomputable def elemR (V : Value → Prop) (v : Value) : Option (DataW Unit × List MemPlace) := if V v then some (.nil, []) else none

theorem elemR_mk {V : Value → Prop} {v : Value} (h : V v) : elemR V v = some (.nil, []) := by simp [elemR, h]
theorem elemR_inv {V : Value → Prop} {v : Value} {z : DataW Unit × List MemPlace} (h : elemR V v = some z) : V v := by
  unfold elemR at h
  split at h
  · assumption
  · cases h

def MapV (P : Program) (k : TypeId) (V : Value → Prop) (w : World) (b n : Nat) : Prop := ∃ D, w.ownsMap P k (elemR V) b n D

theorem MapV.made (P : Program) (k : TypeId) (V : Value → Prop) (w : World) : MapV P k V (w.alloc (.map #[] 0)) w.heap.size 0 := ⟨_, World.ownsMap_made w P k (elemR V)⟩
theorem MapV.lt {P : Program} {k : TypeId} {V : Value → Prop} {w : World} {b n : Nat} (h : MapV P k V w b n) : b < w.heap.size := by obtain ⟨D, h⟩ := h; exact h.lt
theorem MapV.mono {P : Program} {k : TypeId} {V : Value → Prop} {w : World} {b n n' : Nat} (h : MapV P k V w b n) (hn : n ≤ n') : MapV P k V w b n' := by obtain ⟨D, h⟩ := h; exact ⟨D, h.mono hn⟩
theorem MapV.kept {P : Program} {k : TypeId} {V : Value → Prop} {w w' : World} {b n : Nat} {row : Option Nat} (h : MapV P k V w b n) (hg : w.grownBy w' row) (hne : some b ≠ row) : MapV P k V w' b n := by obtain ⟨D, h⟩ := h; exact ⟨D, h.kept hg hne⟩
theorem MapV.same {P : Program} {k : TypeId} {V : Value → Prop} {w w' : World} {b n : Nat} (h : MapV P k V w b n) (hb : w'.heap[b]? = w.heap[b]?) : MapV P k V w' b n := by
  obtain ⟨D, es, clock, h1, h2⟩ := h
  exact ⟨D, es, clock, hb.trans h1, h2⟩

theorem MapV.look {P : Program} {k t e : TypeId} {V : Value → Prop} {w : World} {b n : Nat} (h : MapV P k V w b n) (K : Keyed P k) (ht : P.underlying t = some (.map k e)) {z : Value} (hz : (zeroValue e).run P w = .ok z w) (hV : V z)
    {key : Value} {kl : Lit} (hkey : keyOf P k key = some kl) : ∃ v, (Instr.lookup t (.map (some b)) key false).run P w = .ok v w ∧ V v := by
  obtain ⟨D, h⟩ := h
  obtain ⟨v, ps, h1, h2⟩ := h.lookup K ht hz (elemR_mk hV) hkey
  exact ⟨v, h1, elemR_inv h2⟩

theorem MapV.store {P : Program} {k t e : TypeId} {V : Value → Prop} {w : World} {b n : Nat} (h : MapV P k V w b n) (K : Keyed P k) (ht : P.underlying t = some (.map k e)) (hn : n < maxLen) {key val : Value} {kl : Lit} (hkey : keyOf P k key = some kl) (hV : V val) :
    ∃ w', (Instr.mapUpdate t (.map (some b)) key val).run P w = .ok () w' ∧ MapV P k V w' b (n + 1) ∧ w.grownBy w' (some b) := by
  obtain ⟨D, h⟩ := h
  obtain ⟨w', h1, h2, h3⟩ := h.update K ht hn hkey (elemR_mk hV)
  exact ⟨w', h1, ⟨_, h2⟩, h3⟩

theorem MapV.drop {P : Program} {k t e : TypeId} {V : Value → Prop} {w : World} {b n : Nat} (h : MapV P k V w b n) (K : Keyed P k) (ht : P.underlying t = some (.map k e)) {key : Value} {kl : Lit} (hkey : keyOf P k key = some kl) (ty : TypeId) :
    ∃ w', (Builtin.delete_ #[t, k] ty #[.map (some b), key]).run P w = .ok (.tuple #[]) w' ∧ MapV P k V w' b n ∧ w.grownBy w' (some b) := by
  obtain ⟨D, h⟩ := h
  obtain ⟨w', h1, h2, h3⟩ := h.drop K ht hkey ty
  exact ⟨w', h1, ⟨_, h2⟩, h3.grown⟩

theorem wpList_mapV {P : Program} {ops : Array Oper} {rest : List Oper} {o : Oper} {a : Act} {w : World} {Q : Exit → Act → World → Prop} (hg : o.guard = none) (m x v : Operand) (t : TypeId) (hop : o.op = Op.mapUpdate t m x v)
    {k e : TypeId} {V : Value → Prop} {b n : Nat} (h : MapV P k V w b n) (K : Keyed P k) (ht : P.underlying t = some (.map k e)) (hn : n < maxLen) (hm : a.eval m = .map (some b)) {key val : Value} {kl : Lit} (hx : a.eval x = key) (hv : a.eval v = val) (hkey : keyOf P k key = some kl) (hV : V val)
    (hK : ∀ w', MapV P k V w' b (n + 1) → w.grownBy w' (some b) → wpList P ops Q rest (a.put o.dst undef) w') : wpList P ops Q (o :: rest) a w := by
  refine wpList_plain hg fun K' hK' => ?_
  obtain ⟨w', hrun, r1, r2⟩ := h.store K ht hn hkey hV
  unfold Oper.wp
  simp [execOp, hop, hm, hx, hv, hrun, Result.andThen]
  exact hK' _ _ (hK w' r1 r2)

end Go.Sx
