/- Part TgQ of a proof: helper lemmas; no conditions. -/
import Derived.Test.YtadhlkgjiccdpaaGreatDoorTgM
import Derived.Test.YtadhlkgjiccdpaaGreatDoorTgA
import Derived.Deep.DeepCutAuto

set_option linter.unusedSimpArgs false
set_option linter.unusedVariables false

namespace Go.Sx
open Go Go.Proofs

theorem und46 : Tryz.prog.underlying 27 = some (.slice 5) := by kernel_rfl
theorem infoB5 : ∃ i, Tryz.prog.info? 5 = some i ∧ i.size = 1 ∧ i.bytes = 1 ∧ i.zero = some (.int .u8 0) := by
  have h : (Tryz.prog.info? 5).map (fun i => (i.size, i.bytes, i.zero)) = some (1, 1, some (.int .u8 0)) := by kernel_rfl
  cases hi : Tryz.prog.info? 5 with
  | none => rw [hi] at h; cases h
  | some i =>
    rw [hi] at h
    simp only [Option.map_some, Option.some.injEq, Prod.mk.injEq] at h
    exact ⟨i, rfl, h.1, h.2.1, h.2.2⟩

def OutRow (χ : Chi) (ao : Option Addr) (l c : Nat) : Prop := RowOK χ χ.F oct ao c ∨ (c = l ∧ RowOK χ χ.A oct ao c)

theorem oct_flat {χ : Chi} {S S' : Nat → Prop} {vs : Array Value} (h : PerOK Tryz.prog χ S oct vs) : PerOK Tryz.prog χ S' oct vs := by
  intro i v hv
  obtain ⟨ct, h1, h2⟩ := h i v hv
  have : i % oct.length = 0 := Nat.mod_one i
  rw [this] at h1
  cases h1
  exact ⟨.int .u8 0 255, by rw [this]; rfl, h2⟩

theorem zero_oct {χ : Chi} {S : Nat → Prop} (n : Nat) : PerOK Tryz.prog χ S oct (Builtin.zeroCells (Value.int .u8 0).cells n) ∧ (Builtin.zeroCells (Value.int .u8 0).cells n).size = n * oct.length := by
  refine ⟨fun i v hv => ?_, by rw [size_zeroCells]; rfl⟩
  simp only [Builtin.zeroCells, Array.getElem?_map, Array.getElem?_range] at hv
  split at hv
  · simp only [Option.map_some, Option.some.injEq] at hv
    refine ⟨.int .u8 0 255, by have : i % oct.length = 0 := Nat.mod_one i; rw [this]; rfl, 0, ?_, by omega, by omega⟩
    rw [← hv]
    have : i % (Value.int IntKind.u8 0).cells.size = 0 := Nat.mod_one i
    rw [this]; rfl
  · cases hv

structure Src (χ : Chi) (w : World) (x : Value) (n : Nat) : Prop where
  len : ∀ w', (Builtin.lenOf x).run Tryz.prog w' = .ok n w'
  vs : ∃ vs : Array Value, (∀ w', w'.heap = w.heap → (Builtin.firstCells 1 n x).run Tryz.prog w' = .ok vs w') ∧ vs.size = n * oct.length ∧ PerOK Tryz.prog χ χ.F oct vs

theorem Src.row {χ : Chi} {w : World} (hi : Inv Tryz.prog χ w) {ao : Option Addr} {l c : Nat} (hlc : l ≤ c) (h : RowOK χ χ.A oct ao c) : Src χ w (.slice ao l c) l := by
  refine ⟨fun _ => rfl, ?_⟩
  cases ao with
  | none =>
    have h0 : c = 0 := h
    obtain rfl : l = 0 := by omega
    exact ⟨#[], fun w' _ => rfl, by simp, PerOK.empty⟩
  | some ad =>
    obtain ⟨vs, h1, h2, h3⟩ := load_row hi (fr := false) h hlc (by decide)
    exact ⟨vs, h1, h2, oct_flat (S := χ.A) h3⟩

theorem Src.new1 {χ : Chi} (w : World) {x : Int} (h0 : 0 ≤ x) (h1 : x ≤ 255) : Src χ (w.alloc (.cells #[.int .u8 x] 5)) (.slice (some ⟨w.heap.size, 0, none⟩) 1 1) 1 := by
  refine ⟨fun _ => rfl, #[.int .u8 x], fun w' hw => ?_, rfl, fun i v hv => ?_⟩
  · have hb : w'.heap[w.heap.size]? = some (.cells #[.int .u8 x] 5 (0, 0)) := by rw [hw, alloc_get, if_pos rfl]
    exact run_loadCells_blk _ hb 0 1 (by simp)
  · match i, hv with
    | 0, hv => cases hv; exact ⟨.int .u8 0 255, rfl, x, rfl, h0, h1⟩

set_option maxRecDepth 100000 in
theorem append_bytes {χ : Chi} {w : World} (hi : Inv Tryz.prog χ w) {ao : Option Addr} {l c n : Nat} {x : Value} (hlc : l ≤ c) (hcc : c ≤ CB) (hrow : OutRow χ ao l c) (hs : Src χ w x n) (h1 : 1 ≤ l + n) (hn : 1 ≤ n ∨ RowOK χ χ.F oct ao c) (hsum : l + n ≤ 140737488355328) (ty : TypeId) :
    ∃ ao' c' χ' w', (Builtin.append_ #[27, 27] ty #[.slice ao l c, x]).run Tryz.prog w = .ok (.slice ao' (l + n) c') w' ∧ Ext 0 χ χ' ∧ MemExt χ w χ' w' ∧ Inv Tryz.prog χ' w' ∧ l + n ≤ c' ∧ c' ≤ CB ∧ RowOK χ' χ'.F oct ao' c' := by
  obtain ⟨i, hi5, hz1, hz2, hz3⟩ := infoB5
  obtain ⟨vs, hf, hvsz, hper⟩ := hs.vs
  by_cases hroom : l + n ≤ c
  · have hF : RowOK χ χ.F oct ao c := by
      rcases hrow with hF | ⟨rfl, _⟩
      · exact hF
      · rcases hn with hn | hF
        · omega
        · exact hF
    · cases ao with
      | none => have : c = 0 := hF; omega
      | some ad =>
        obtain ⟨b, off, sp⟩ := ad
        have hsp : sp = none := hF.1
        subst hsp
        obtain ⟨w', hst, hi', hm'⟩ := write_row hi hF hroom (by decide) hvsz hper
        have hr := run_append_in (P := Tryz.prog) (w := w) (w' := w') (ts := #[27, 27]) (ty := ty) (base := some ⟨b, off, none⟩) (sLen := l) (sCap := c) rfl rfl und46 und46 rfl hi5 (hs.len w) (by rw [hz1]; exact hf w rfl) hroom (by
          show (storeCells ((⟨b, off, none⟩ : Addr).add (l * i.size)) vs.toList).run Tryz.prog w = _
          rw [hz1]
          by_cases hl0 : l = 0
          · subst hl0; simpa [Addr.add, oct] using hst
          · simpa [Addr.add, oct, hl0] using hst)
        exact ⟨_, c, χ, w', hr, Ext.refl 0 χ, hm', hi', hroom, hcc, hF⟩
  · have hold : ∃ old : Array Value, (Builtin.firstCells i.size l (.slice ao l c)).run Tryz.prog w.drew = .ok old w.drew ∧ old.size = l * oct.length ∧ PerOK Tryz.prog χ χ.F oct old := by
      have hA : RowOK χ χ.A oct ao c := by
        rcases hrow with h | h
        · exact h.monoS hi.sub
        · exact h.2
      obtain ⟨old, h1, h2, h3⟩ := (Src.row hi hlc hA).vs
      exact ⟨old, by rw [hz1]; exact h1 w.drew rfl, h2, h3⟩
    obtain ⟨old, ho1, ho2, ho3⟩ := hold
    obtain ⟨cap, c1, c2, hr⟩ := run_append_out (P := Tryz.prog) (w := w) (ts := #[27, 27]) (ty := ty) (base := ao) (sLen := l) (sCap := c) rfl rfl und46 und46 rfl hi5 hz3 (hs.len w) hroom (by unfold CB; omega) (by rw [hz2]; omega) ho1 (by rw [hz1]; exact hf w.drew rfl)
    obtain ⟨z1, z2⟩ := zero_oct (χ := χ) (S := χ.F) (cap - (l + n))
    have hall : PerOK Tryz.prog χ χ.F oct (old ++ vs ++ Builtin.zeroCells (Value.int .u8 0).cells (cap - (l + n))) :=
      (ho3.append ho2 hper).append (a := l + n) (by rw [Array.size_append, ho2, hvsz, Nat.add_mul]) z1
    have hsize : (old ++ vs ++ Builtin.zeroCells (Value.int .u8 0).cells (cap - (l + n))).size = cap * oct.length := by
      rw [Array.size_append, Array.size_append, ho2, hvsz, z2, ← Nat.add_mul, ← Nat.add_mul]; congr 1; omega
    have hi1 := hi.drew
    refine ⟨_, cap, χ.alloc w.drew.heap.size true (perK oct cap), _, hr, Ext.alloc hi1 _ _ _, (MemExt.drew χ w).trans (MemExt.alloc ..), ?_, c1, c2, perK_row (w := w.drew) (fr := true)⟩
    exact Inv.alloc hi1 true _ _ _ _ (hall.typed hsize) (fun _ i hi h => by simp at h)

theorem wpList_append_run {P : Program} {ops : Array Oper} {rest : List Oper} {o : Oper} {a : Act} {w : World} {Q : Exit → Act → World → Prop} (hgd : o.guard = none) (s x : Operand) (t t2 : TypeId)
    (hop : o.op = .call { callee := .builtin .append, args := #[s, x], argTypes := #[t, t2] }) {vs vx v : Value} {w' : World} (hs : a.eval s = vs) (hx : a.eval x = vx)
    (hrun : (Builtin.append_ #[t, t2] o.type #[vs, vx]).run P w = .ok v w') (h : wpList P ops Q rest (a.put o.dst v) w') : wpList P ops Q (o :: rest) a w :=
  wpList_plain hgd fun K hK => by
    have hr := run_call_builtin (P := P) (a := a) (w := w) (w' := w') (o := o) (b := .append) (v := v) hop rfl (s := Builtin.append_ #[t, t2] o.type #[vs, vx]) (fun consts => by simp [hs, hx]; rfl) hrun
    unfold Oper.wp
    rw [hr]
    exact hK _ _ h

structure TGrows (χ : Chi) (w : World) (χ' : Chi) (w' : World) : Prop where
  ext : Ext 0 χ χ'
  mem : MemExt χ w χ' w'
  inv : Inv Tryz.prog χ' w'

theorem TGrows.trans {χ χ' χ'' : Chi} {w w' w'' : World} (h : TGrows χ w χ' w') (k : TGrows χ' w' χ'' w'') : TGrows χ w χ'' w'' := ⟨h.ext.trans k.ext, h.mem.trans k.mem, k.inv⟩

theorem TGrows.keep {χ χ' : Chi} {w w' : World} (h : TGrows χ w χ' w') {E : Nat} {o : Obj} (hE : w.heap[E]? = some o) (hF : ¬ χ.F E) : w'.heap[E]? = some o ∧ ¬ χ'.F E := by
  have hlt := lt_of_blk hE
  refine ⟨(h.mem.old E hlt hF).trans hE, fun hF' => ?_⟩
  rcases h.mem.Fn E hF' with h1 | h1
  · exact hF h1
  · omega

theorem TGrows.plain {χ : Chi} {w w' : World} (hi : Inv Tryz.prog χ w) (hg : w.grownBy w' none) : TGrows χ w χ w' :=
  ⟨Ext.refl 0 χ, ⟨hg.os, hg.tape, hg.output, hg.size, fun b hb _ => hg.block b hb (by simp), fun _ h => .inl h, fun _ h => .inl h⟩, hi.same fun b hb => hg.block b (hi.lt hb) (by simp)⟩

theorem wpList_append1 {ops : Array Oper} {rest : List Oper} {o : Oper} {a : Act} {w : World} {Q : Exit → Act → World → Prop} (hgd : o.guard = none) (s x : Operand)
    (hop : o.op = .call { callee := .builtin .append, args := #[s, x], argTypes := #[27, 27] }) {χ : Chi} (hi : Inv Tryz.prog χ w) {ao : Option Addr} {l c : Nat} {v : Int} (hs : a.eval s = .slice ao l c) (hx : a.eval x = .slice (some ⟨w.heap.size, 0, none⟩) 1 1)
    (hv : 0 ≤ v ∧ v ≤ 255) (hlc : l ≤ c) (hcc : c ≤ CB) (hrow : OutRow χ ao l c) (hsum : l ≤ 100000000000000)
    (h : ∀ ao' c' χ' w', TGrows χ w χ' w' → l + 1 ≤ c' → c' ≤ CB → RowOK χ' χ'.F oct ao' c' → wpList Tryz.prog ops Q rest (a.put o.dst (.slice ao' (l + 1) c')) w') :
    wpList Tryz.prog ops Q (o :: rest) a (w.alloc (.cells #[.int .u8 v] 5)) := by
  have hg := grown_alloc w (.cells #[.int .u8 v] 5)
  have G := TGrows.plain hi hg
  obtain ⟨ao', c', χ', w', hrun, h1, h2, h3, h4, h5, h6⟩ := append_bytes G.inv hlc hcc hrow (Src.new1 w hv.1 hv.2) (by omega) (.inl (Nat.le_refl 1)) (by omega) o.type
  exact wpList_append_run hgd s x 27 27 hop hs hx hrun (h ao' c' χ' w' (G.trans ⟨h1, h2, h3⟩) h4 h5 h6)

theorem Src.new2 {χ : Chi} (w : World) : Src χ (w.alloc (.cells #[.int .u8 0, .int .u8 0] 5)) (.slice (some ⟨w.heap.size, 0, none⟩) 2 2) 2 := by
  refine ⟨fun _ => rfl, #[.int .u8 0, .int .u8 0], fun w' hw => ?_, rfl, fun i v hv => ?_⟩
  · have hb : w'.heap[w.heap.size]? = some (.cells #[.int .u8 0, .int .u8 0] 5 (0, 0)) := by rw [hw, alloc_get, if_pos rfl]
    exact run_loadCells_blk _ hb 0 2 (by simp)
  · match i, hv with
    | 0, hv => cases hv; exact ⟨.int .u8 0 255, rfl, 0, rfl, by omega, by omega⟩
    | 1, hv => cases hv; exact ⟨.int .u8 0 255, rfl, 0, rfl, by omega, by omega⟩

theorem wpList_append2 {ops : Array Oper} {rest : List Oper} {o : Oper} {a : Act} {w : World} {Q : Exit → Act → World → Prop} (hgd : o.guard = none) (s x : Operand)
    (hop : o.op = .call { callee := .builtin .append, args := #[s, x], argTypes := #[27, 27] }) {χ : Chi} (hi : Inv Tryz.prog χ w) {ao : Option Addr} {l c : Nat} (hs : a.eval s = .slice ao l c) (hx : a.eval x = .slice (some ⟨w.heap.size, 0, none⟩) 2 2)
    (hlc : l ≤ c) (hcc : c ≤ CB) (hrow : OutRow χ ao l c) (hsum : l ≤ 100000000000000)
    (h : ∀ ao' c' χ' w', TGrows χ w χ' w' → l + 2 ≤ c' → c' ≤ CB → RowOK χ' χ'.F oct ao' c' → wpList Tryz.prog ops Q rest (a.put o.dst (.slice ao' (l + 2) c')) w') :
    wpList Tryz.prog ops Q (o :: rest) a (w.alloc (.cells #[.int .u8 0, .int .u8 0] 5)) := by
  have hg := grown_alloc w (.cells #[.int .u8 0, .int .u8 0] 5)
  have G := TGrows.plain hi hg
  obtain ⟨ao', c', χ', w', hrun, h1, h2, h3, h4, h5, h6⟩ := append_bytes G.inv hlc hcc hrow (Src.new2 w) (by omega) (.inl (by omega)) (by omega) o.type
  exact wpList_append_run hgd s x 27 27 hop hs hx hrun (h ao' c' χ' w' (G.trans ⟨h1, h2, h3⟩) h4 h5 h6)

theorem wpList_appendR {ops : Array Oper} {rest : List Oper} {o : Oper} {a : Act} {w : World} {Q : Exit → Act → World → Prop} (hgd : o.guard = none) (s x : Operand)
    (hop : o.op = .call { callee := .builtin .append, args := #[s, x], argTypes := #[27, 27] }) {χ : Chi} (hi : Inv Tryz.prog χ w) {ao ao2 : Option Addr} {l c l2 c2 : Nat} (hs : a.eval s = .slice ao l c) (hx : a.eval x = .slice ao2 l2 c2)
    (hl1 : 1 ≤ l) (hlc : l ≤ c) (hcc : c ≤ CB) (hrow : RowOK χ χ.F oct ao c) (hlc2 : l2 ≤ c2) (hrow2 : RowOK χ χ.A oct ao2 c2) (hsum : l + l2 ≤ 100000000000000)
    (h : ∀ ao' c' χ' w', TGrows χ w χ' w' → l + l2 ≤ c' → c' ≤ CB → RowOK χ' χ'.F oct ao' c' → wpList Tryz.prog ops Q rest (a.put o.dst (.slice ao' (l + l2) c')) w') :
    wpList Tryz.prog ops Q (o :: rest) a w := by
  obtain ⟨ao', c', χ', w', hrun, h1, h2, h3, h4, h5, h6⟩ := append_bytes hi hlc hcc (.inl hrow) (Src.row hi hlc2 hrow2) (by omega) (.inr hrow) (by omega) o.type
  exact wpList_append_run hgd s x 27 27 hop hs hx hrun (h ao' c' χ' w' ⟨h1, h2, h3⟩ h4 h5 h6)

theorem OutRow.A {χ : Chi} {w : World} (hi : Inv Tryz.prog χ w) {ao : Option Addr} {l c : Nat} (h : OutRow χ ao l c) : RowOK χ χ.A oct ao c := by
  rcases h with h | h
  · exact h.monoS hi.sub
  · exact h.2

end Go.Sx

namespace Go.Sx
open Go Go.Proofs

def RowPost (χ : Chi) (w : World) (lo hi : Nat) (e : Ending) (w' : World) : Prop :=
  ∃ ao' l' c' χ', e = .returned (.slice ao' l' c') ∧ lo ≤ l' ∧ l' ≤ hi ∧ l' ≤ c' ∧ c' ≤ CB ∧ RowOK χ' χ'.F oct ao' c' ∧ TGrows χ w χ' w'

theorem bits_and_u32 (a b : Int) : 0 ≤ bits BinOp.and .u32 a b ∧ bits BinOp.and .u32 a b ≤ 4294967295 := wrap_range .u32 _

theorem shr_run {P : Program} {w : World} (k yk : IntKind) (x y : Int) (hy : 0 ≤ y) : (Op.shift .shr k x yk y).run P w = .ok (.int k (x.fdiv (2 ^ min y.toNat k.bits))) w := by
  have : ¬ y < 0 := by omega
  simp [Op.shift, this]

theorem shr_u32_zero {x y : Int} (h0 : 0 ≤ x) (h1 : x ≤ 4294967295) (hy : 25 ≤ y) : x.fdiv (2 ^ min (y + 7).toNat (IntKind.u32).bits) = 0 := by
  have : min (y + 7).toNat (IntKind.u32).bits = 32 := by
    have h : (IntKind.u32).bits = 32 := rfl
    rw [h]; omega
  rw [this]
  rw [Int.fdiv_eq_ediv_of_nonneg _ (by decide)]
  exact Int.ediv_eq_zero_of_lt h0 (by show x < 4294967296; omega)

theorem bits_or_u8 (a b : Int) : 0 ≤ bits BinOp.or .u8 a b ∧ bits BinOp.or .u8 a b ≤ 255 := wrap_range .u8 _

set_option maxRecDepth 100000 in
set_option maxHeartbeats 1600000 in
theorem identifier_any {χ : Chi} {w : World} {t : TN} (hi : Inv Tryz.prog χ w) (ht : TypedN χ t) {ao : Option Addr} {l c : Nat} (hl : l ≤ 10000000000000) (hlc : l ≤ c) (hcc : c ≤ CB) (hrow : OutRow χ ao l c) :
    Calls Tryz.prog 162 #[.slice ao l c, t.agg] w (RowPost χ w (l + 1) (l + 6)) := by
  have hg0 := grown_alloc w (.cells #[.int .u8 t.vc, .int .u32 t.vt, .bool t.vb, .slice t.a3 t.l3 t.c3, .slice t.a4 t.l4 t.c4] 61)
  have hE : (w.alloc (.cells #[.int .u8 t.vc, .int .u32 t.vt, .bool t.vb, .slice t.a3 t.l3 t.c3, .slice t.a4 t.l4 t.c4] 61)).heap[w.heap.size]? = some (.cells #[.int .u8 t.vc, .int .u32 t.vt, .bool t.vb, .slice t.a3 t.l3 t.c3, .slice t.a4 t.l4 t.c4] 61 (0, 0)) := by rw [alloc_get, if_pos rfl]
  have G0 := TGrows.plain hi hg0
  have hnF : ¬ χ.F w.heap.size := fun h => by have := hi.lt (hi.sub _ h); omega
  have ht0 := ht.t0
  have hc0 := ht.c0
  unfold TN.agg
  clear ht
  obtain ⟨vc, vt, vb, a3, l3', c3', a4, l4, c4⟩ := t
  dsimp only at *
  go_enter Tryz.func162, Tryz.ntmps162
  go_upto_if 11 with fail
  generalize w.alloc (.cells #[.int .u8 vc, .int .u32 vt, .bool vb, .slice a3 l3' c3', .slice a4 l4 c4] 61) = w1 at *
  have hy0 : 0 ≤ vc * 64 % 256 := by omega
  have hy1 : vc * 64 % 256 ≤ 255 := by omega
  generalize vc * 64 % 256 = y at *
  go_cut [5] (fun p wx => (∃ x : Int, p = .int .u8 x ∧ 0 ≤ x ∧ x ≤ 255) ∧ wx = w1)
  case first =>
    cases vb with
    | true =>
      have hb := bits_or_u8 y 32
      go_wp2
      go_meet
      exact ⟨⟨_, rfl, hb.1, hb.2⟩, rfl⟩
    | false =>
      go_wp2
      go_meet
      exact ⟨⟨_, rfl, hy0, hy1⟩, rfl⟩
  case rest =>
    obtain ⟨⟨x, rfl, hx0, hx1⟩, hw⟩ := hcut
    subst hw
    have k1 : wc.cell? ⟨w.heap.size, 1, none⟩ = some (.int .u32 vt) := by rw [cell?_blk hE]; rfl
    clear hy0 hy1
    by_cases h31 : vt < 31
    · go_wp2_with (at_builtin; refine wpList_append1 rfl _ _ rfl G0.inv (ao := ao) (l := l) (c := c) (by go_simp) (by go_simp) ?_ hlc hcc hrow (by omega) ?_)
      · exact bits_or_u8 _ _
      intro ao' c' χ' w' hG h1 h2 h3
      go_wp2
      exact bodyPost_ret (v := .slice ao' (l + 1) c') (by simp [results, Tryz.results162, go_sem]) rfl ⟨ao', l + 1, c', χ', rfl, by omega, by omega, h1, h2, h3, G0.trans hG⟩
    · go_wp2_with (at_builtin; refine wpList_append1 rfl _ _ rfl G0.inv (ao := ao) (l := l) (c := c) (by go_simp) (by go_simp) ?_ hlc hcc hrow (by omega) ?_)
      · exact bits_or_u8 _ _
      intro ao2 c2 χ2 w2 hG2 p1 p2 p3
      obtain ⟨hE2, hnF2⟩ := hG2.keep hE hnF
      have G2 := G0.trans hG2
      clear hE k1 hG2
      have k1 : w2.cell? ⟨w.heap.size, 1, none⟩ = some (.int .u32 vt) := by rw [cell?_blk hE2]; rfl
      go_wp2
      go_loopg [6] 10 (fun k p wr => ∃ s : Nat, p = .int .i64 (s : Int) ∧ k + s / 7 = 10 ∧ s % 7 = 0 ∧ s ≤ 28 ∧ wr = w2)
      case atStart => exact ⟨0, rfl, rfl, rfl, by omega, rfl⟩
      case round =>
        obtain ⟨s, rfl, hk, hs7, hs, hw⟩ := hrel
        subst hw
        have hsh := shr_run (P := Tryz.prog) (w := wr) .u32 .i64 vt ((s : Int) + 7) (by omega)
        have hz : 25 ≤ s → vt.fdiv (2 ^ min ((s : Int) + 7).toNat (IntKind.u32).bits) = 0 := fun h => shr_u32_zero ht0.1 ht0.2 (by omega)
        generalize vt.fdiv (2 ^ min ((s : Int) + 7).toNat (IntKind.u32).bits) = r at *
        by_cases hr : 0 < r
        · have hrb : decide (0 < r) = true := by simpa using hr
          cases gk with
          | zero =>
            rcases Nat.lt_or_ge s 25 with h | h
            · omega
            · have := hz h; omega
          | succ k' =>
            have HZ := Lib.hid hz
            clear hz
            go_wp2
            have hz := HZ.out
            have hs2 : s ≤ 24 := by
              rcases Nat.lt_or_ge s 25 with h | h
              · omega
              · have := hz h; omega
            go_roundg k'
            case measure => exact Nat.lt_succ_self k'
            exact ⟨s + 7, by rfl, by omega, by omega, by omega, rfl⟩
        · have hrb : decide (0 < r) = false := by simpa using hr
          clear hz
          go_wp2
          clear hsh hk
          go_loopg [0, 6] 10 (fun k q p wr2 => ∃ (s2 l3 c3 : Nat) (ao3 : Option Addr) (χ3 : Chi), q = .slice ao3 l3 c3 ∧ p = .int .i64 (s2 : Int) ∧ s2 / 7 ≤ k ∧ s2 % 7 = 0 ∧ s2 ≤ 28 ∧ l3 + s2 / 7 = l + 1 + s / 7 ∧ l3 ≤ c3 ∧ c3 ≤ CB ∧ RowOK χ3 χ3.F oct ao3 c3 ∧ TGrows χ w χ3 wr2 ∧ ¬ χ3.F w.heap.size ∧ wr2.heap[w.heap.size]? = some (.cells #[.int .u8 vc, .int .u32 vt, .bool vb, .slice a3 l3' c3', .slice a4 l4 c4] 61 (0, 0)))
          case atStart => exact ⟨s, l + 1, c2, ao2, χ2, rfl, rfl, by omega, hs7, hs, by omega, p1, p2, p3, G2, hnF2, hE2⟩
          case round =>
            obtain ⟨s2, l3, c3, ao3, χ3, rfl, rfl, hk2, hs27, hs2, hl3, u1, u2, u3, G3, hnF3, hE3⟩ := hrel
            clear hE2 k1
            have k1 : wr.cell? ⟨w.heap.size, 1, none⟩ = some (.int .u32 vt) := by rw [cell?_blk hE3]; rfl
            by_cases hz : s2 = 0
            · subst hz
              have hb7 := bits_and_u32 vt 127
              go_wp2_with (at_builtin; refine wpList_append1 rfl _ _ rfl G3.inv (ao := ao3) (l := l3) (c := c3) (by go_simp) (by go_simp) ?_ u1 u2 (.inl u3) (by omega) ?_)
              · omega
              intro ao4 c4 χ4 w4 hG v1 v2 v3
              go_wp2
              exact bodyPost_ret (v := .slice ao4 (l3 + 1) c4) (by simp [results, Tryz.results162, go_sem]) rfl ⟨ao4, l3 + 1, c4, χ4, rfl, by omega, by omega, v1, v2, v3, G3.trans hG⟩
            · have hpos : (0 : Int) < (s2 : Int) := by omega
              have hposb : decide ((0 : Int) < (s2 : Int)) = true := by simpa using hpos
              cases gk with
              | zero => omega
              | succ k2 =>
                go_wp2_with (at_builtin; refine wpList_append1 rfl _ _ rfl G3.inv (ao := ao3) (l := l3) (c := c3) (by go_simp) (by go_simp) ?_ u1 u2 (.inl u3) (by omega) ?_)
                · exact bits_or_u8 _ _
                intro ao4 c4' χ4 w4 hG v1 v2 v3
                obtain ⟨hE4, hnF4⟩ := hG.keep hE3 hnF3
                have G4 := G3.trans hG
                have HM := Lib.hid hE4
                clear hE3 hE4 k1 hG
                go_wp2
                go_roundg k2
                case measure => exact Nat.lt_succ_self k2
                exact ⟨s2 - 7, l3 + 1, c4', ao4, χ4, rfl, by congr 1; omega, by omega, by omega, by omega, by omega, v1, v2, v3, G4, hnF4, HM.out⟩

set_option maxRecDepth 100000 in
set_option maxHeartbeats 1600000 in
theorem size_any {χ : Chi} {w : World} (hi : Inv Tryz.prog χ w) {n : Int} (hn : 0 ≤ n) (hn2 : n < 72057594037927936) {f : Int} {ao : Option Addr} {l c : Nat} (hl : l ≤ 10000000000000) (hlc : l ≤ c) (hcc : c ≤ CB) (hrow : OutRow χ ao l c) :
    Calls Tryz.prog 161 #[.slice ao l c, .int .i64 n, .int .u8 f] w (RowPost χ w (l + 1) (l + 9)) := by
  go_enter Tryz.func161, Tryz.ntmps161
  go_wp2
  go_loopg [7] 10 (fun k p wr => ∃ s : Nat, p = .int .i64 (s : Int) ∧ k + s = 10 ∧ s ≤ 7 ∧ wr = w)
  case atStart => exact ⟨0, rfl, rfl, by omega, rfl⟩
  case round =>
    obtain ⟨s, rfl, hk, hs, hw⟩ := hrel
    subst hw
    by_cases hr : 0 < n / 2 ^ (8 * s)
    · have hrb : decide (0 < n / 2 ^ (8 * s)) = true := by simpa using hr
      cases gk with
      | zero => omega
      | succ k' =>
        go_wp2
        have hs2 : s ≤ 6 := by
          rcases Nat.lt_or_ge s 7 with h | h
          · omega
          · obtain rfl : s = 7 := by omega
            have : n / 2 ^ (8 * 7) = 0 := Int.ediv_eq_zero_of_lt hn (by show n < 72057594037927936; exact hn2)
            omega
        go_roundg k'
        case measure => exact Nat.lt_succ_self k'
        exact ⟨s + 1, by rfl, by omega, by omega, rfl⟩
    · have hrb : decide (0 < n / 2 ^ (8 * s)) = false := by simpa using hr
      go_upto_block 2 with fail
      go_cut [7] (fun p wx => (∃ k2 : Nat, p = .int .i64 (k2 : Int) ∧ k2 ≤ 7) ∧ wx = wr)
      case first =>
        by_cases hf : f = 2
        · subst hf
          go_wp2
          go_meet
          exact ⟨⟨4, rfl, by omega⟩, rfl⟩
        · have hfb : (f == 2) = false := by simpa using hf
          by_cases h128 : n < 128
          · have hnb : decide (n < 128) = true := by simpa using h128
            go_wp2_with (at_builtin; refine wpList_append1 rfl _ _ rfl hi (ao := ao) (l := l) (c := c) (by go_simp) (by go_simp) ?_ hlc hcc hrow (by omega) ?_)
            · omega
            intro ao4 c4 χ4 w4 hG v1 v2 v3
            go_wp2
            exact bodyPost_ret (v := .slice ao4 (l + 1) c4) (by simp [results, Tryz.results161, go_sem]) rfl ⟨ao4, l + 1, c4, χ4, rfl, by omega, by omega, v1, v2, v3, hG⟩
          · have hnb : decide (n < 128) = false := by simpa using h128
            go_wp2
            go_meet
            exact ⟨⟨s, rfl, hs⟩, rfl⟩
      case rest =>
        obtain ⟨⟨k2, rfl, hk2⟩, hw⟩ := hcut
        subst hw
        go_wp2_with (at_builtin; refine wpList_append1 rfl _ _ rfl hi (ao := ao) (l := l) (c := c) (by go_simp) (by go_simp) ?_ hlc hcc hrow (by omega) ?_)
        · omega
        intro ao4 c4 χ4 w4 hG4 v1 v2 v3
        go_wp2
        go_loopg [0, 7] 10 (fun k q p wx => ∃ (j : Int) (m l3 c3 : Nat) (ao3 : Option Addr) (χ3 : Chi), q = .slice ao3 l3 c3 ∧ p = .int .i64 j ∧ j + 1 = (m : Int) ∧ m ≤ k ∧ m ≤ 7 ∧ l3 + m = l + 1 + k2 ∧ l3 ≤ c3 ∧ c3 ≤ CB ∧ RowOK χ3 χ3.F oct ao3 c3 ∧ TGrows χ wc χ3 wx)
        case atStart => exact ⟨(k2 : Int) - 1, k2, l + 1, c4, ao4, χ4, rfl, rfl, by omega, by omega, by omega, by omega, v1, v2, v3, hG4⟩
        case round =>
          obtain ⟨j, m, l3, c3, ao3, χ3, rfl, rfl, hjm, hmk, hm7, hl3, u1, u2, u3, G3⟩ := hrel
          cases m with
          | zero =>
            obtain rfl : j = -1 := by omega
            go_wp2
            exact bodyPost_ret (v := .slice ao3 l3 c3) (by simp [results, Tryz.results161, go_sem]) rfl ⟨ao3, l3, c3, χ3, rfl, by omega, by omega, u1, u2, u3, G3⟩
          | succ m =>
            obtain rfl : j = (m : Int) := by omega
            cases gk with
            | zero => omega
            | succ k' =>
              go_wp2_with (at_builtin; refine wpList_append1 rfl _ _ rfl G3.inv (ao := ao3) (l := l3) (c := c3) (by go_simp) (by go_simp) ?_ u1 u2 (.inl u3) (by omega) ?_)
              · omega
              intro ao5 c5 χ5 w5 hG5 x1 x2 x3
              have G5 := G3.trans hG5
              go_wp2
              go_roundg k'
              case measure => exact Nat.lt_succ_self k'
              exact ⟨(m : Int) - 1, m, l3 + 1, c5, ao5, χ5, rfl, rfl, by omega, by omega, by omega, by omega, x1, x2, x3, G5⟩

end Go.Sx

namespace Go.Sx
open Go Go.Proofs

theorem sumN_le {f : Nat → Nat} {g : Nat → Nat} {K : Nat} : ∀ {n : Nat}, (∀ i, i < n → f i ≤ K * g i) → sumN f n ≤ K * sumN g n
  | 0, _ => by simp [sumN]
  | n + 1, h => by
    simp only [sumN, Nat.mul_add]
    have := sumN_le (n := n) (fun i hi => h i (by omega))
    have := h n (by omega)
    omega

theorem TreeAt.bound {χ : Chi} {w : World} : ∀ {d n s : Nat} {t : TN}, TreeAt χ w d n s t → s ≤ 1099511627776 * n
  | 0, _, _, _, h => h.elim
  | d + 1, n, s, t, h => by
    obtain ⟨h0, ns, ss, ps, h1, h2, h3⟩ := h
    have := sumN_le (f := ss) (g := ns) (K := 1099511627776) (n := t.l4) (fun i hi => (h3 i hi).2.bound)
    have := h0.l3.2.1
    unfold LB at this
    omega

theorem TypedN.shut {χ : Chi} {t : TN} (h : TypedN χ t) : TypedN χ.shut t := ⟨h.c0, h.t0, h.l3, h.r3, h.l4, h.r4⟩

set_option maxRecDepth 100000 in
set_option maxHeartbeats 1600000 in
theorem long_any : ∀ d {χ : Chi} {w : World} {n s : Nat} {t : TN}, Inv Tryz.prog χ w → TreeAt χ w d n s t → n ≤ 1024 →
    Calls Tryz.prog 125 #[t.agg] w fun e w' => w.grownBy w' none ∧ ∃ m : Nat, e = .returned (.int .i64 (m : Int)) ∧ s ≤ m ∧ m ≤ s + 20 * n := by
  intro d
  induction d with
  | zero => intro χ w n s t _ h; exact h.elim
  | succ d ih =>
    intro χ w n s t hi ht hn
    have hty := ht.typed
    have hbd := ht.bound
    obtain ⟨_, ns, ss, ps, hns, hss, hps⟩ := ht
    have hg0 := grown_alloc w (.cells #[.int .u8 t.vc, .int .u32 t.vt, .bool t.vb, .slice t.a3 t.l3 t.c3, .slice t.a4 t.l4 t.c4] 61)
    have hE : (w.alloc (.cells #[.int .u8 t.vc, .int .u32 t.vt, .bool t.vb, .slice t.a3 t.l3 t.c3, .slice t.a4 t.l4 t.c4] 61)).heap[w.heap.size]? = some (.cells #[.int .u8 t.vc, .int .u32 t.vt, .bool t.vb, .slice t.a3 t.l3 t.c3, .slice t.a4 t.l4 t.c4] 61 (0, 0)) := by rw [alloc_get, if_pos rfl]
    have hl4 := hty.l4.2.1
    have hl3 := hty.l3.2.1
    unfold LB at hl4 hl3
    unfold TN.agg
    go_enter Tryz.func125, Tryz.ntmps125
    go_wp2
    generalize w.alloc (.cells #[.int .u8 t.vc, .int .u32 t.vt, .bool t.vb, .slice t.a3 t.l3 t.c3, .slice t.a4 t.l4 t.c4] 61) = w1 at *
    go_loopg [3, 12] t.l4 (fun k q p wr => ∃ (i m : Nat), q = .int .i64 (m : Int) ∧ p = .int .i64 (i : Int) ∧ k + i = t.l4 ∧ t.l3 + sumN ss i ≤ m ∧ m ≤ t.l3 + sumN ss i + 20 * sumN ns i ∧ w1.grownBy wr none)
    case atStart => exact ⟨0, t.l3, rfl, rfl, rfl, by simp [sumN], by simp [sumN], grown_refl _⟩
    case round =>
      obtain ⟨i, m, rfl, rfl, hki, hm1, hm2, hg1⟩ := hrel
      have hgr := grown_trans hg0 hg1
      have hk : ∀ b, χ.A b → wr.heap[b]? = w.heap[b]? := fun b hb => hgr.block b (hi.lt hb) (by simp)
      have hE1 := (hg1.block _ (lt_of_blk hE) (by simp)).trans hE
      have hmono1 := sumN_mono ns (m := i) (n := t.l4) (by omega)
      have hmono2 := sumN_mono ss (m := i) (n := t.l4) (by omega)
      cases gk with
      | zero =>
        obtain rfl : i = t.l4 := by omega
        have hil : decide (t.l4 < t.l4) = false := by simp
        obtain ⟨k0, k1, k2, k3, k4⟩ := TN.cells5 hE1
        have hir : Inv Tryz.prog χ wr := hi.same hk
        have hid := identifier_any (l := 0) (c := 0) (ao := none) hir.shut hty.shut (by omega) (by omega) (by unfold CB; omega) (.inl rfl)
        unfold TN.agg at hid
        clear hmono1 hmono2
        go_wp2_with fail
        refine hid.mono ?_
        clear hid k0 k1 k2 k3 k4
        rintro e w2 ⟨ao2, l2, c2, χ2, rfl, b1, b2, b3, b4, b5, G2⟩
        have hsz := size_any G2.inv (n := (m : Int)) (f := 0) (by omega) (by omega) (ao := ao2) (l := l2) (c := c2) (by omega) b3 b4 (.inl b5)
        go_wp2_with fail
        refine hsz.mono ?_
        clear hsz
        rintro e w3 ⟨ao3, l3, c3, χ3, rfl, d1, d2, d3, d4, d5, G3⟩
        have hg3 : wr.grownBy w3 none := grown_of_mem (G2.trans G3).mem (fun _ h => h)
        go_wp2
        exact bodyPost_ret (v := .int .i64 ((m : Int) + (l3 : Int))) (by simp [results, Tryz.results125, go_sem]) rfl ⟨grown_trans hgr hg3, m + l3, rfl, by omega, by omega⟩
      | succ k' =>
        have hlt : i < t.l4 := by omega
        have hil : decide (i < t.l4) = true := by simp; omega
        have hp := (hps i hlt).1.same (χ' := χ) (w' := wr) (fun _ h => h) hk
        obtain ⟨b, o, e4, hA, q0, q1, q2, q3, q4⟩ := hp.cells
        have hbw : b < wr.heap.size := Nat.lt_of_lt_of_le (hi.lt hA) hgr.size
        have hsn : sumN ns (i + 1) ≤ sumN ns t.l4 := sumN_mono ns (by omega)
        have hss2 : sumN ss (i + 1) ≤ sumN ss t.l4 := sumN_mono ss (by omega)
        simp only [sumN] at hsn hss2
        generalize hwx : wr.alloc (.cells #[.int .u8 (ps i).vc, .int .u32 (ps i).vt, .bool (ps i).vb, .slice (ps i).a3 (ps i).l3 (ps i).c3, .slice (ps i).a4 (ps i).l4 (ps i).c4] 61) = wx
        have hgx : wr.grownBy wx none := by rw [← hwx]; exact grown_alloc wr _
        have hgx2 := grown_trans hgr hgx
        have hkx : ∀ b, χ.A b → wx.heap[b]? = w.heap[b]? := fun b hb => hgx2.block b (hi.lt hb) (by simp)
        have hih := ih (hi.same hkx) ((hps i hlt).2.same (Ext.refl 0 χ) hkx) (by omega)
        have hib := (hps i hlt).2.bound
        subst hwx
        unfold TN.agg at hih
        clear hps hp
        go_wp2_with fail
        refine hih.mono ?_
        clear hih q0 q1 q2 q3 q4
        rintro e w2 ⟨hg2, m2, rfl, n1, n2⟩
        have hgr2 := grown_trans (grown_trans hg1 hgx) hg2
        go_wp2_with fail
        rw [← e4]
        go_roundg k'
        case measure => exact Nat.lt_succ_self k'
        exact ⟨i + 1, m + m2, by rfl, by rfl, by omega, by simp only [sumN]; omega, by simp only [sumN]; omega, hgr2⟩

end Go.Sx
