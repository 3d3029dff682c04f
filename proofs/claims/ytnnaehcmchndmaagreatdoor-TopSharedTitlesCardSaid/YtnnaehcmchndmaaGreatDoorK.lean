/- Part K of a proof: helper lemmas; no conditions. -/
import Derived.Test.YtnnaehcmchndmaaGreatDoorJ

set_option linter.unusedSimpArgs false
set_option linter.unusedVariables false

namespace Go.Sx
open Go

def seenV (w : World) : D → (Nat → Option Value) → Nat → Seen → Seen
  | .int _, f, o, st => (st.1 ++ [cellInt (f o)], st.2)
  | .bool, f, o, st => (st.1 ++ [cellBool (f o)], st.2)
  | .str, f, o, st => (st.1, st.2 ++ [cellStr (f o)])
  | .nil, _, _, st => st
  | .seq x y, f, o, st => seenV w y f (o + x.size) (seenV w x f o st)
  | .row _ e, f, o, st =>
    let r := cellRow (f o)
    rowLoop (fun i st => seen w e r.1 (r.2.1 + i * e.size) st) r.2.2 0 (st.1 ++ [(r.2.2 : Int)], st.2)
  | .stop _, _, _, st => (st.1 ++ manyZ, st.2)
  | .strs _, f, o, st =>
    let r := cellRow (f o)
    rowLoop (fun i st => (st.1, st.2 ++ [cellStr (w.cell? ⟨r.1, r.2.1 + i * 1, none⟩)])) r.2.2 0 (st.1 ++ [(r.2.2 : Int)], st.2)

theorem seen_V (w : World) (b : Nat) : ∀ (d : D) (o : Nat) (st : Seen), seen w d b o st = seenV w d (fun i => w.cell? ⟨b, i, none⟩) o st := by
  intro d
  induction d with
  | seq x y ihx ihy => intro o st; simp only [seen, seenV]; rw [ihx, ihy]
  | _ => intro o st; rfl

theorem seenV_congr (w : World) : ∀ (d : D) {f g : Nat → Option Value} {o p : Nat} (st : Seen), (∀ i, i < d.size → f (o + i) = g (p + i)) → seenV w d f o st = seenV w d g p st := by
  intro d
  induction d with
  | seq x y ihx ihy =>
    intro f g o p st h
    simp only [seenV]
    rw [ihx st fun i hi => h i (by simp only [D.size]; omega), ihy _ fun i hi => ?_]
    have := h (x.size + i) (by simp only [D.size]; omega)
    rw [← Nat.add_assoc, ← Nat.add_assoc] at this
    exact this
  | nil => intro f g o p st h; rfl
  | stop l => intro f g o p st h; rfl
  | _ => intro f g o p st h; have := h 0 (by simp [D.size]); simp only [Nat.add_zero] at this; simp only [seenV, this]

def D.flat : D → Bool
  | .seq a b => a.flat && b.flat
  | .row _ _ => false
  | .stop _ => false
  | .strs _ => false
  | _ => true

theorem seenV_flat (w w' : World) : ∀ (d : D), d.flat = true → ∀ {f : Nat → Option Value} {o : Nat} (st : Seen), seenV w' d f o st = seenV w d f o st := by
  intro d
  induction d with
  | seq x y ihx ihy =>
    intro h f o st
    simp only [D.flat, Bool.and_eq_true] at h
    simp only [seenV]; rw [ihx h.1, ihy h.2]
  | row t e _ => intro h; cases h
  | stop l => intro h; cases h
  | strs l => intro h; cases h
  | _ => intro _ f o st; rfl

structure PartOK (P : Program) (m : Nat) (w0 : World) (χ : Chi) (w : World) (d : D) (f g : Nat → Option Value) (o : Nat) : Prop where
  ty : ∀ i, i < d.size → ∃ v ct, g (o + i) = some v ∧ d.cts[i]? = some ct ∧ CellOK P χ χ.A (ct.bd m) v
  eq : ∀ st, seenV w d g o st = seenV w0 d f o st

theorem PartOK.seq {P : Program} {m : Nat} {w0 w : World} {χ : Chi} {x y : D} {f g : Nat → Option Value} {o : Nat} (hx : PartOK P m w0 χ w x f g o) (hy : PartOK P m w0 χ w y f g (o + x.size)) : PartOK P m w0 χ w (.seq x y) f g o := by
  refine ⟨fun i hi => ?_, fun st => ?_⟩
  · simp only [D.size] at hi
    simp only [D.cts]
    rcases Nat.lt_or_ge i x.size with h | h
    · obtain ⟨v, ct, h1, h2, h3⟩ := hx.ty i h
      exact ⟨v, ct, h1, by rw [List.getElem?_append_left (by rw [D.cts_len]; exact h)]; exact h2, h3⟩
    · obtain ⟨v, ct, h1, h2, h3⟩ := hy.ty (i - x.size) (by omega)
      refine ⟨v, ct, ?_, by rw [List.getElem?_append_right (by rw [D.cts_len]; exact h), D.cts_len]; exact h2, h3⟩
      rw [← h1]; congr 1; omega
  · simp only [seenV]; rw [hx.eq, hy.eq]

theorem PartOK.of_flat {P : Program} {m : Nat} {w0 w : World} {χ : Chi} {Z : Nat → Prop} : ∀ (d : D), d.flat = true → ∀ {f : Nat → Option Value} {o : Nat}, RdV Z w0 d f o → SmV m w0 d f o → PartOK P m w0 χ w d f f o := by
  intro d
  induction d with
  | int k =>
    intro _ f o h _
    obtain ⟨z, h1, h2, h3⟩ := h
    exact ⟨fun i hi => by simp only [D.size] at hi; have : i = 0 := by omega
                          subst this; exact ⟨_, _, h1, rfl, z, rfl, h2, h3⟩, fun st => rfl⟩
  | bool =>
    intro _ f o h _
    obtain ⟨z, h1⟩ := h
    exact ⟨fun i hi => by simp only [D.size] at hi; have : i = 0 := by omega
                          subst this; exact ⟨_, _, h1, rfl, z, rfl⟩, fun st => rfl⟩
  | str =>
    intro _ f o h hs
    obtain ⟨z, h1, _⟩ := h
    exact ⟨fun i hi => by simp only [D.size] at hi; have : i = 0 := by omega
                          subst this; exact ⟨_, _, h1, rfl, z, rfl, hs z h1⟩, fun st => rfl⟩
  | nil => intro _ f o _ _; exact ⟨fun i hi => by simp [D.size] at hi, fun st => rfl⟩
  | seq x y ihx ihy =>
    intro hf f o h hs
    simp only [D.flat, Bool.and_eq_true] at hf
    simp only [SmV] at hs
    exact (ihx hf.1 h.1 hs.1).seq (ihy hf.2 h.2 hs.2)
  | row t e _ => intro hf; cases hf
  | stop l => intro hf; cases hf
  | strs l => intro hf; cases hf

structure Grows (P : Program) (χ : Chi) (w : World) (χ' : Chi) (w' : World) : Prop where
  ext : Ext 0 χ χ'
  new : ∀ b, χ'.A b → χ.A b ∨ w.heap.size ≤ b
  inv : InvF P χ' w'
  grown : w.grownBy w' none

theorem Grows.trans {P : Program} {χ χ' χ'' : Chi} {w w' w'' : World} (h : Grows P χ w χ' w') (k : Grows P χ' w' χ'' w'') : Grows P χ w χ'' w'' :=
  ⟨h.ext.trans k.ext, fun b hb => by
    rcases k.new b hb with h1 | h1
    · exact h.new b h1
    · exact .inr (Nat.le_trans h.grown.size h1), k.inv, grown_trans h.grown k.grown⟩

def CopyPost (P : Program) (t es : Nat) (w : World) (ao : Option Addr) (l : Nat) (en : Ending) (w' : World) : Prop :=
  (l = 0 ∧ en = .returned (.slice none 0 0) ∧ w' = w) ∨
  ∃ cap cs b o, 0 < l ∧ ao = some ⟨b, o, none⟩ ∧ en = .returned (.slice (some ⟨w.heap.size, 0, none⟩) l cap) ∧ l ≤ cap ∧ cap ≤ CB ∧ w' = w.drew.alloc (.cells cs t) ∧ cs.size = cap * es ∧
    (∀ i, i < l * es → cs[i]? = w.cell? ⟨b, o + i, none⟩) ∧ ∃ z, zeroAt P t = some z ∧ ∀ i, l * es ≤ i → i < cap * es → cs[i]? = z.cells[i % es]?

def CopyRaw (P : Program) (g t es : Nat) : Prop :=
  ∀ (w : World) (ao : Option Addr) (l c : Nat), l ≤ 2000 → (l = 0 ∨ ∃ b o, ao = some ⟨b, o, none⟩ ∧ ∀ i, i < l * es → (w.cell? ⟨b, o + i, none⟩).isSome = true) →
    Calls P g #[.slice ao l c] w (CopyPost P t es w ao l)

theorem wp_append {P : Program} {o : Oper} {x y : Operand} {T : Nat} {a : Act} {w w' : World} {v : Value} {K : Act → World → Prop} {Q : Exit → Act → World → Prop} (ho : o.op = .call ⟨.builtin .append, #[x, y], #[T, T]⟩)
    (hr : (Builtin.append_ #[T, T] o.type #[a.eval x, a.eval y]).run P w = .ok v w') (h : K (a.put o.dst v) w') : o.wp P a w K Q :=
  Oper.wp_val (v := v) (w' := w') (run_call_builtin ho rfl (fun _ => rfl) (by simpa using hr)) h

theorem CopyRaw.of_code {P : Program} {g t es n i0 i1 r s1 s2 T y0 y1 y2 y3 : Nat} {p0 p1 p2 p3 : String} {f0 f1 f2 f3 : Array Edge} {fn : Func} {i : TypeInfo} {z : Value}
    (hf : P.funcs[g]? = some fn) (hn : fn.ntmps = n) (hr : fn.results = #[.tmp r]) (hs : (Nat.blt r n && Nat.blt s1 n && Nat.blt s2 n && Nat.ble 1 n && Nat.ble 1 r && Nat.ble 1 s1) = true)
    (hT : P.underlying T = some (.slice t)) (hi : P.info? t = some i) (hz : i.zero = some z) (hsz : i.size = es) (hzs : z.cells.size = es) (h1 : 1 ≤ es) (hby : i.bytes ≤ 1000000) (hzt : zeroAt P t = some z)
    (hb : fn.body = some (.seq (.region i0 #[⟨some r, .assign (.const (.slice none 0 0)), y0, p0, f0, none⟩] false) (.seq (.region i1 #[⟨some s1, .move (.tmp 0), y1, p1, f1, none⟩,
      ⟨some s2, .call ⟨.builtin .append, #[.const (.slice none 0 0), .tmp s1], #[T, T]⟩, y2, p2, f2, none⟩, ⟨some r, .assign (.tmp s2), y3, p3, f3, none⟩] false) .ret))) : CopyRaw P g t es := by
  intro w ao l c hl hcell
  simp only [Bool.and_eq_true, Nat.blt_eq, Nat.ble_eq] at hs
  obtain ⟨⟨⟨⟨⟨q1, q2⟩, q3⟩, q4⟩, q5⟩, q6⟩ := hs
  refine calls_of_wp hf hb ?_
  rw [hn]
  generalize ha0 : ({ tmps := #[Value.slice ao l c] ++ Array.replicate (n - #[Value.slice ao l c].size) undef, defers := [] } : Act) = a0
  have hz0 : a0.tmps.size = n := by rw [← ha0]; simp; omega
  have hd0 : a0.defers = [] := by rw [← ha0]
  have hx0 : a0.eval (.tmp 0) = .slice ao l c := by rw [← ha0]; simp [Act.eval, Array.getD_eq_getD_getElem?, Array.getElem?_append]
  refine wp_seq (wp_region (wpOps1 rfl (wp_assign rfl ?_)))
  have hx1 : ∀ v, (a0.put (some r) v).eval (.tmp 0) = .slice ao l c := fun v => by rw [eval_put, if_neg (by omega)]; exact hx0
  have fin : ∀ (v : Value) (w' : World), CopyPost P t es w ao l (.returned v) w' → ∀ v0 v1, Code.ret.wp P (bodyPost P fn (CopyPost P t es w ao l)) ((((a0.put (some r) v0).put (some s1) v1).put (some s2) v).put (some r) ((((a0.put (some r) v0).put (some s1) v1).put (some s2) v).eval (.tmp s2))) w' := by
    intro v w' hp v0 v1
    refine wp_ret ⟨by simp only [Act.put_defers]; exact hd0, v, ?_, hp⟩
    rw [find_results hr]
    simp only [Act.put_tmps, getD_set, Array.size_setIfInBounds]
    rw [if_pos ⟨trivial, by omega⟩, eval_put, if_pos ⟨rfl, by simp only [put_size]; omega⟩]
  rcases Nat.eq_zero_or_pos l with h0 | h0
  · subst h0
    refine wp_seq (wp_region (wpOps3 rfl rfl rfl (wp_move rfl (wp_append (v := .slice none 0 0) (w' := w) rfl ?_ (wp_assign rfl ?_)))))
    · have hfc : (Builtin.firstCells i.size 0 (.slice ao 0 c)).run P w = .ok #[] w := by
        cases ao with
        | none => rfl
        | some ad => simp [Builtin.firstCells, loadCells, loadCellsFrom]
      have := run_append_in (P := P) (w := w) (w' := w) (ts := #[T, T]) (ty := y2) (base := none) (sLen := 0) (sCap := 0) (n := 0) (x := .slice ao 0 c) (vs := #[]) rfl rfl hT hT rfl hi rfl hfc (by omega) rfl
      rw [hx1, eval_put, if_pos ⟨rfl, by rw [put_size]; omega⟩]
      exact this
    · exact fin _ _ (.inl ⟨rfl, rfl, rfl⟩) _ _
  · rcases hcell with hc0 | ⟨b, o, rfl, hcell⟩
    · omega
    have hle : 0 < l * es := Nat.mul_pos h0 h1
    have hblk : ∃ cs E fz, w.heap[b]? = some (.cells cs E fz) := by
      have := hcell 0 hle
      simp only [World.cell?] at this
      split at this
      · exact ⟨_, _, _, by assumption⟩
      · cases this
    obtain ⟨cs0, E0, fz0, hblk⟩ := hblk
    have hsize : o + l * es ≤ cs0.size := by
      have := hcell (l * es - 1) (by omega)
      rw [cell?_blk hblk] at this
      have := (Array.getElem?_eq_some_iff.1 (Option.some_get this).symm).1
      omega
    have hblk' : w.drew.heap[b]? = some (.cells cs0 E0 fz0) := hblk
    have hfc : (Builtin.firstCells i.size l (.slice (some ⟨b, o, none⟩) l c)).run P w.drew = .ok (cs0.extract o (o + l * es)) w.drew := by
      simp only [Builtin.firstCells, hsz]
      exact run_loadCells_blk P hblk' o (l * es) hsize
    have hfo : (Builtin.firstCells i.size 0 (.slice none 0 0)).run P w.drew = .ok #[] w.drew := rfl
    have hbl : (0 + l) * i.bytes ≤ 140737488355328 := by
      have : l * i.bytes ≤ 2000 * 1000000 := Nat.mul_le_mul hl hby
      rw [Nat.zero_add]; omega
    obtain ⟨cap, k1, k2, k3⟩ := run_append_out (P := P) (w := w) (ts := #[T, T]) (ty := y2) (base := none) (sLen := 0) (sCap := 0) (n := l) (x := .slice (some ⟨b, o, none⟩) l c) (old := #[]) (vs := cs0.extract o (o + l * es)) rfl rfl hT hT rfl hi hz rfl (by omega) (by simp only [CB]; omega) hbl hfo hfc
    refine wp_seq (wp_region (wpOps3 rfl rfl rfl (wp_move rfl (wp_append rfl (by
      rw [hx1, eval_put, if_pos ⟨rfl, by rw [put_size]; omega⟩]; exact k3) (wp_assign rfl ?_)))))
    refine fin _ _ ?_ _ _
    simp only [Nat.zero_add] at k1 k2 ⊢
    have hexs : (cs0.extract o (o + l * es)).size = l * es := by simp; omega
    refine .inr ⟨cap, _, b, o, h0, rfl, rfl, k1, k2, rfl, ?_, fun j hj => ?_, z, hzt, fun j hj1 hj2 => ?_⟩
    · simp only [Array.empty_append, Array.size_append, hexs, Builtin.zeroCells, Array.size_map, Array.size_range, hzs]
      have : l * es ≤ cap * es := Nat.mul_le_mul_right _ k1
      rw [Nat.sub_mul]; omega
    · rw [Array.empty_append, Array.getElem?_append_left (by omega), cell?_blk hblk, Array.getElem?_extract]
      rw [if_pos (by omega)]
    · rw [Array.empty_append, Array.getElem?_append_right (by omega), hexs]
      simp only [Builtin.zeroCells, Array.getElem?_map, hzs]
      have : l * es ≤ cap * es := Nat.mul_le_mul_right _ k1
      have e1 : (cap - l) * es = cap * es - l * es := Nat.sub_mul _ _ _
      rw [Array.getElem?_range, if_pos (by rw [e1]; omega)]
      simp only [Option.map_some]
      have e2 : (j - l * es) % es = j % es := by
        conv => rhs; rw [show j = (j - l * es) + l * es by omega]
        rw [Nat.add_mul_mod_self_right]
      have hlt : j % es < z.cells.size := by rw [hzs]; exact Nat.mod_lt _ (by omega)
      rw [e2, getElem!_pos z.cells _ hlt, Array.getElem?_eq_getElem hlt]

end Go.Sx

namespace Go.Sx
open Go

theorem SmV.congr {m : Nat} {w : World} : ∀ (d : D) {f g : Nat → Option Value} {o p : Nat}, (∀ i, i < d.size → f (o + i) = g (p + i)) → SmV m w d f o → SmV m w d g p := by
  intro d
  induction d with
  | seq x y ihx ihy =>
    intro f g o p h hs
    simp only [SmV] at hs ⊢
    refine ⟨ihx (fun i hi => h i (by simp only [D.size]; omega)) hs.1, ihy (fun i hi => ?_) hs.2⟩
    have := h (x.size + i) (by simp only [D.size]; omega)
    rw [← Nat.add_assoc, ← Nat.add_assoc] at this
    exact this
  | str => intro f g o p h hs; simp only [SmV] at hs ⊢; have := h 0 (by simp [D.size]); simp only [Nat.add_zero] at this; rw [← this]; exact hs
  | row t e _ => intro f g o p h hs; simp only [SmV] at hs ⊢; have := h 0 (by simp [D.size]); simp only [Nat.add_zero] at this; rw [← this]; exact hs
  | stop l => intro f g o p h hs; simp only [SmV] at hs
  | strs l => intro f g o p h hs; simp only [SmV] at hs
  | _ => intro f g o p h hs; simp only [SmV]

theorem RdV.congr {Z : Nat → Prop} {w : World} : ∀ (d : D) {f g : Nat → Option Value} {o p : Nat}, (∀ i, i < d.size → f (o + i) = g (p + i)) → RdV Z w d f o → RdV Z w d g p := by
  intro d
  induction d with
  | seq x y ihx ihy =>
    intro f g o p h hs
    refine ⟨ihx (fun i hi => h i (by simp only [D.size]; omega)) hs.1, ihy (fun i hi => ?_) hs.2⟩
    have := h (x.size + i) (by simp only [D.size]; omega)
    rw [← Nat.add_assoc, ← Nat.add_assoc] at this
    exact this
  | nil => intro f g o p h hs; trivial
  | stop l => intro f g o p h hs; trivial
  | _ => intro f g o p h hs; have := h 0 (by simp [D.size]); simp only [Nat.add_zero] at this; simp only [RdV] at hs ⊢; rw [← this]; exact hs

theorem Rd.v {Z : Nat → Prop} {w : World} : ∀ (d : D) {b o : Nat}, Rd Z w d b o → RdV Z w d (fun i => w.cell? ⟨b, i, none⟩) o := by
  intro d
  induction d with
  | seq x y ihx ihy => intro b o h; exact ⟨ihx h.1, ihy h.2⟩
  | nil => intro b o h; trivial
  | stop l => intro b o h; trivial
  | _ => intro b o h; exact h.2.2

theorem RdV.same {Z : Nat → Prop} {w w' : World} (hs : ∀ b, Z b → w'.heap[b]? = w.heap[b]?) : ∀ (d : D) {f : Nat → Option Value} {o : Nat}, RdV Z w d f o → RdV Z w' d f o := by
  intro d
  induction d with
  | seq x y ihx ihy => intro f o h; exact ⟨ihx h.1, ihy h.2⟩
  | row t e _ => intro f o h; obtain ⟨ao, l, c, h1, h2, h3, h4⟩ := h; exact ⟨ao, l, c, h1, h2, h3, h4.same hs⟩
  | strs t => intro f o h; obtain ⟨ao, l, c, h1, h2, h3, h5, h4⟩ := h; exact ⟨ao, l, c, h1, h2, h3, h5, h4.same hs⟩
  | _ => intro f o h; exact h

theorem RdV.cells {m : Nat} {Z : Nat → Prop} {w : World} : ∀ (d : D) {f : Nat → Option Value} {o : Nat}, RdV Z w d f o → SmV m w d f o → ∀ i, i < d.size → ∃ v, f (o + i) = some v ∧ v.oneCell' = true := by
  intro d
  induction d with
  | seq x y ihx ihy =>
    intro f o h hsm i hi
    simp only [D.size] at hi
    simp only [SmV] at hsm
    rcases Nat.lt_or_ge i x.size with hlt | hge
    · exact ihx h.1 hsm.1 i hlt
    · have := ihy h.2 hsm.2 (i - x.size) (by omega)
      rw [show o + x.size + (i - x.size) = o + i by omega] at this
      exact this
  | nil => intro f o h _ i hi; simp [D.size] at hi
  | stop l => intro f o h hsm; simp only [SmV] at hsm
  | strs l => intro f o h hsm; simp only [SmV] at hsm
  | int k => intro f o h _ i hi; obtain ⟨z, h1, _⟩ := h; simp only [D.size] at hi; have : i = 0 := by omega
             subst this; exact ⟨_, h1, rfl⟩
  | bool => intro f o h _ i hi; obtain ⟨z, h1⟩ := h; simp only [D.size] at hi; have : i = 0 := by omega
            subst this; exact ⟨_, h1, rfl⟩
  | str => intro f o h _ i hi; obtain ⟨z, h1, _⟩ := h; simp only [D.size] at hi; have : i = 0 := by omega
           subst this; exact ⟨_, h1, rfl⟩
  | row t e _ => intro f o h _ i hi; obtain ⟨ao, l, c, h1, _⟩ := h; simp only [D.size] at hi; have : i = 0 := by omega
                 subst this; exact ⟨_, h1, rfl⟩

theorem rowRd_seen {Z : Nat → Prop} {w w' : World} (hs : ∀ b, Z b → w'.heap[b]? = w.heap[b]?) {e : D} {ao : Option Addr} {l : Nat} (h : RowRd Z w e ao l) (c : Nat) (st : Seen) :
    rowLoop (fun i st => seen w' e (cellRow (some (.slice ao l c))).1 ((cellRow (some (.slice ao l c))).2.1 + i * e.size) st) (cellRow (some (.slice ao l c))).2.2 0 st =
    rowLoop (fun i st => seen w e (cellRow (some (.slice ao l c))).1 ((cellRow (some (.slice ao l c))).2.1 + i * e.size) st) (cellRow (some (.slice ao l c))).2.2 0 st := by
  rcases h with rfl | ⟨b', o', rfl, h⟩
  · cases ao <;> rfl
  · simp only [cellRow]
    exact rowLoop_congr fun j st _ hj => seen_same hs e (h j (by omega)) st

theorem seenV_same {Z : Nat → Prop} {w w' : World} (hs : ∀ b, Z b → w'.heap[b]? = w.heap[b]?) : ∀ (d : D) {f : Nat → Option Value} {o : Nat}, RdV Z w d f o → ∀ st, seenV w' d f o st = seenV w d f o st := by
  intro d
  induction d with
  | seq x y ihx ihy => intro f o h st; simp only [seenV]; rw [ihx h.1, ihy h.2]
  | row t e _ =>
    intro f o h st
    obtain ⟨ao, l, c, h1, h2, h3, h4⟩ := h
    simp only [seenV, h1]
    exact rowRd_seen hs h4 c _
  | strs t =>
    intro f o h st
    obtain ⟨ao, l, c, h1, h2, h3, _, h4⟩ := h
    simp only [seenV, h1]
    exact rowRd_seen (e := .str) hs h4 c _
  | _ => intro f o h st; rfl

theorem SmV.same {m : Nat} {Z : Nat → Prop} {w w' : World} (hs : ∀ b, Z b → w'.heap[b]? = w.heap[b]?) : ∀ (d : D) {f : Nat → Option Value} {o : Nat}, RdV Z w d f o → SmV m w d f o → SmV m w' d f o := by
  intro d
  induction d with
  | seq x y ihx ihy =>
    intro f o h hm
    simp only [SmV] at hm ⊢
    exact ⟨ihx h.1 hm.1, ihy h.2 hm.2⟩
  | str => intro f o h hm; simpa only [SmV] using hm
  | row t e ih =>
    intro f o h hm
    simp only [SmV] at hm ⊢
    intro ao l c hf
    obtain ⟨k1, k2⟩ := hm ao l c hf
    refine ⟨k1, fun b' o' hao i hi => ?_⟩
    obtain ⟨ao', l', c', h1, h2, h3, h4⟩ := h
    rw [hf] at h1
    cases h1
    rcases h4 with h4 | ⟨b2, o2, h5, h4⟩
    · omega
    · rw [hao] at h5
      cases h5
      have hr := h4 i hi
      have := ih hr.v (k2 b' o' hao i hi)
      refine SmV.congr e (fun j hj => ?_) this
      have hr' := hr.same hs e
      have hz : ∀ (d : D) {b o : Nat}, Rd Z w d b o → SmV m w d (fun j => w.cell? ⟨b, j, none⟩) o → ∀ j, j < d.size → w'.cell? ⟨b, o + j, none⟩ = w.cell? ⟨b, o + j, none⟩ := by
        intro d
        induction d with
        | seq x y ihx ihy =>
          intro b o h hsm j hj
          simp only [D.size] at hj
          simp only [SmV] at hsm
          rcases Nat.lt_or_ge j x.size with hlt | hge
          · exact ihx h.1 hsm.1 j hlt
          · have := ihy h.2 hsm.2 (j - x.size) (by omega)
            rw [show o + x.size + (j - x.size) = o + j by omega] at this
            exact this
        | nil => intro b o h _ j hj; simp [D.size] at hj
        | stop l => intro b o h hsm; simp only [SmV] at hsm
        | strs l => intro b o h hsm; simp only [SmV] at hsm
        | _ => intro b o h _ j hj; exact World.cell?_of_block (hs _ h.1)
      exact (hz e hr (k2 b' o' hao i hi) j hj).symm
  | stop l => intro f o h hm; simp only [SmV] at hm
  | strs l => intro f o h hm; simp only [SmV] at hm
  | _ => intro f o h hm; simp only [SmV]

theorem PartOK.rdv {P : Program} {m : Nat} {w : World} {χ : Chi} (hi : InvF P χ w) (hm : m ≤ LB) : ∀ (d : D), d.ok P → ∀ {g : Nat → Option Value} {o : Nat}, (∀ i, i < d.size → ∃ v ct, g (o + i) = some v ∧ d.cts[i]? = some ct ∧ CellOK P χ χ.A (ct.bd m) v) → RdV χ.A w d g o := by
  have hLB : LB ≤ maxLen := by unfold LB maxLen; omega
  intro d
  induction d with
  | seq x y ihx ihy =>
    intro hok g o h
    refine ⟨ihx hok.1 fun i hi' => ?_, ihy hok.2 fun i hi' => ?_⟩
    · obtain ⟨v, ct, h1, h2, h3⟩ := h i (by simp only [D.size]; omega)
      simp only [D.cts] at h2
      rw [List.getElem?_append_left (by rw [D.cts_len]; exact hi')] at h2
      exact ⟨v, ct, h1, h2, h3⟩
    · obtain ⟨v, ct, h1, h2, h3⟩ := h (x.size + i) (by simp only [D.size]; omega)
      simp only [D.cts] at h2
      rw [List.getElem?_append_right (by rw [D.cts_len]; omega), D.cts_len, show x.size + i - x.size = i by omega] at h2
      exact ⟨v, ct, by rw [Nat.add_assoc]; exact h1, h2, h3⟩
  | nil => intro _ g o _; trivial
  | stop l => intro _ g o _; trivial
  | int k =>
    intro _ g o h
    obtain ⟨v, ct, h1, h2, h3⟩ := h 0 (by simp [D.size])
    simp only [D.cts, List.getElem?_cons_zero, Option.some.injEq] at h2
    subst h2
    obtain ⟨z, rfl, k1, k2⟩ := h3
    exact ⟨z, h1, k1, k2⟩
  | bool =>
    intro _ g o h
    obtain ⟨v, ct, h1, h2, h3⟩ := h 0 (by simp [D.size])
    simp only [D.cts, List.getElem?_cons_zero, Option.some.injEq] at h2
    subst h2
    obtain ⟨z, rfl⟩ := h3
    exact ⟨z, h1⟩
  | str =>
    intro _ g o h
    obtain ⟨v, ct, h1, h2, h3⟩ := h 0 (by simp [D.size])
    simp only [D.cts, List.getElem?_cons_zero, Option.some.injEq] at h2
    subst h2
    obtain ⟨z, rfl, k1⟩ := h3
    exact ⟨z, h1, by omega⟩
  | strs t =>
    intro hok g o h
    obtain ⟨v, ct, h1, h2, h3⟩ := h 0 (by simp [D.size])
    simp only [D.cts, List.getElem?_cons_zero, Option.some.injEq] at h2
    subst h2
    obtain ⟨ao, l, c, rfl, k1, k2, k3, k4⟩ := h3
    refine ⟨ao, l, c, h1, k1, k3, k2, ?_⟩
    cases ao with
    | none => have : c = 0 := k4
              exact .inl (by omega)
    | some ad =>
      obtain ⟨b', o', sp⟩ := ad
      obtain ⟨q1, q2, q3⟩ := k4
      simp only at q1 q2 q3
      subst q1
      have hok : tau P (.base t) = [.str] := hok
      refine .inr ⟨b', o', rfl, fun i hi' => At.rd hi .str trivial ⟨q2, fun j hj => ?_⟩⟩
      rw [hok] at q3
      have hj0 : j = 0 := by have : j < 1 := hj; omega
      subst hj0
      have := q3 i (by simp; omega)
      rw [Nat.add_zero, show i * D.str.size = i from Nat.mul_one i, this]
      simp [D.cts, Nat.mod_one]
  | row t e _ =>
    intro hok g o h
    obtain ⟨v, ct, h1, h2, h3⟩ := h 0 (by simp [D.size])
    simp only [D.cts, List.getElem?_cons_zero, Option.some.injEq] at h2
    subst h2
    obtain ⟨ao, l, c, rfl, k1, k2, k3, k4⟩ := h3
    refine ⟨ao, l, c, h1, k1, k3, ?_⟩
    cases ao with
    | none => have : c = 0 := k4
              exact .inl (by omega)
    | some ad =>
      obtain ⟨b', o', sp⟩ := ad
      obtain ⟨q1, q2, q3⟩ := k4
      simp only at q1 q2 q3
      subst q1
      refine .inr ⟨b', o', rfl, fun i hi' => At.rd hi e hok.2.2 ⟨q2, fun j hj => ?_⟩⟩
      rw [hok.1, D.cts_len] at q3
      have hlt : i * e.size + j < c * e.size := by
        have : (i + 1) * e.size ≤ c * e.size := Nat.mul_le_mul_right _ (by omega)
        rw [Nat.succ_mul] at this; omega
      have := q3 (i * e.size + j) hlt
      rw [Nat.add_assoc, this, Nat.mul_comm, Nat.mul_add_mod, Nat.mod_eq_of_lt hj]

theorem PartOK.step {P : Program} {m : Nat} {w0 w w' : World} {χ χ' : Chi} {d : D} {f g g' : Nat → Option Value} {o : Nat} (h : PartOK P m w0 χ w d f g o) (hi : InvF P χ w) (hm : m ≤ LB) (hok : d.ok P) (hx : Ext 0 χ χ') (hs : ∀ b, χ.A b → w'.heap[b]? = w.heap[b]?)
    (hg : ∀ i, i < d.size → g' (o + i) = g (o + i)) : PartOK P m w0 χ' w' d f g' o := by
  refine ⟨fun i hi' => ?_, fun st => ?_⟩
  · obtain ⟨v, ct, h1, h2, h3⟩ := h.ty i hi'
    exact ⟨v, ct, (hg i hi').trans h1, h2, CellOK.ext hx hx.A (fun _ h => h) h3⟩
  · rw [seenV_congr w' d (g := g) (p := o) st hg, seenV_same hs d (PartOK.rdv hi hm d hok h.ty) st]
    exact h.eq st

theorem flat_cells {P : Program} {m : Nat} {w : World} {Z : Nat → Prop} (hm : m ≤ LB) {d : D} (hf : d.flat = true) {f : Nat → Option Value} {o : Nat} (h : RdV Z w d f o) (hs : SmV m w d f o) (χ : Chi) : ∀ i, i < d.size → ∃ v ct, f (o + i) = some v ∧ d.cts[i]? = some ct ∧ ∀ S, CellOK P χ S ct v := by
  intro i hi
  obtain ⟨v, ct, h1, h2, h3⟩ := (PartOK.of_flat (P := P) (m := m) (w := w) (χ := χ) d hf h hs).ty i hi
  refine ⟨v, ct, h1, h2, fun S => ?_⟩
  have h4 := CellOK.of_bd hm h3
  have hnr : ∀ (d : D), d.flat = true → ∀ (i : Nat) (ct : CT), d.cts[i]? = some ct → (∀ E, ct ≠ CT.slice E) ∧ ∀ m E, ct ≠ CT.sliceB m E := by
    intro d
    induction d with
    | seq x y ihx ihy =>
      intro hf i ct h
      simp only [D.flat, Bool.and_eq_true] at hf
      simp only [D.cts] at h
      rw [List.getElem?_append] at h
      split at h
      · exact ihx hf.1 _ _ h
      · exact ihy hf.2 _ _ h
    | row t e _ => intro h; cases h
    | stop l => intro h; cases h
    | strs l => intro h; cases h
    | nil => intro _ i ct h; simp [D.cts] at h
    | int k => intro _ i ct h; cases i <;> simp [D.cts] at h; subst h; exact ⟨fun _ h => (nomatch h), fun _ _ h => (nomatch h)⟩
    | bool => intro _ i ct h; cases i <;> simp [D.cts] at h; subst h; exact ⟨fun _ h => (nomatch h), fun _ _ h => (nomatch h)⟩
    | str => intro _ i ct h; cases i <;> simp [D.cts] at h; subst h; exact ⟨fun _ h => (nomatch h), fun _ _ h => (nomatch h)⟩
  obtain ⟨n1, n2⟩ := hnr d hf i ct h2
  cases ct with
  | slice E => exact absurd rfl (n1 E)
  | sliceB m E => exact absurd rfl (n2 m E)
  | _ => exact h4

def OwnOK (P : Program) (m g : Nat) (agg : Bool) (d : D) : Prop :=
  ∀ (w : World) (χ : Chi) (Z : Nat → Prop) (cs : Array Value), InvF P χ w → (∀ b, Z b → b < w.heap.size) → cs.size = d.size → RdV Z w d (fun i => cs[i]?) 0 → SmV m w d (fun i => cs[i]?) 0 →
    Calls P g #[if agg then .agg cs else cs.getD 0 undef] w fun en w' => ∃ cs' χ', en = .returned (if agg then .agg cs' else cs'.getD 0 undef) ∧ cs'.size = d.size ∧ Grows P χ w χ' w' ∧ PartOK P m w χ' w' d (fun i => cs[i]?) (fun i => cs'[i]?) 0

theorem Grows.refl {P : Program} {χ : Chi} {w : World} (h : InvF P χ w) : Grows P χ w χ w := ⟨Ext.refl _ _, fun _ h => .inl h, h, grown_refl w⟩

theorem OwnOK.row {P : Program} {m g t : Nat} {e : D} (hcr : CopyRaw P g t e.size) (hm : m ≤ 2000) (hf : e.flat = true) (htau : tau P (.base t) = e.cts) (h1 : 1 ≤ e.size) {z : Value} (hz : zeroAt P t = some z) (hzs : z.cells.size = e.size) (hzf : constFitL z.cells.toList e.cts = true) : OwnOK P m g false (.row t e) := by
  have hmLB : m ≤ LB := by unfold LB; omega
  intro w χ Z cs hinv hZ hsz hr hs
  obtain ⟨ao, l, c, k1, k2, k3, k4⟩ := hr
  have k1 : cs[0]? = some (.slice ao l c) := k1
  simp only [SmV] at hs
  obtain ⟨s1, s2⟩ := hs ao l c k1
  simp only [D.size] at hsz
  have hv : cs.getD 0 undef = .slice ao l c := by rw [Array.getD_eq_getD_getElem?, k1]; rfl
  simp only [Bool.false_eq_true, if_false, hv]
  have hcells : l = 0 ∨ ∃ b o, ao = some ⟨b, o, none⟩ ∧ ∀ i, i < l * e.size → (w.cell? ⟨b, o + i, none⟩).isSome = true := by
    rcases k4 with k4 | ⟨b, o, hao, k4⟩
    · exact .inl k4
    · refine .inr ⟨b, o, hao, fun i hi => ?_⟩
      have hq : i / e.size < l := by rw [Nat.div_lt_iff_lt_mul (by omega)]; exact hi
      obtain ⟨v, hv, _⟩ := ((k4 (i / e.size) hq).v).cells e (s2 b o hao _ hq) (i % e.size) (Nat.mod_lt _ (by omega))
      have e1 : o + i / e.size * e.size + i % e.size = o + i := by rw [Nat.add_assoc, Nat.div_add_mod']
      rw [e1] at hv
      rw [hv]; rfl
  refine (hcr w ao l c (by omega) hcells).mono ?_
  intro en w' hp
  rcases hp with ⟨rfl, rfl, rfl⟩ | ⟨cap, ncs, b, o, h0, hao, rfl, q1, q2, rfl, q3, q4, z', q5, q6⟩
  · refine ⟨#[.slice none 0 0], χ, rfl, rfl, Grows.refl hinv, ⟨fun i hi => ?_, fun st => ?_⟩⟩
    · simp only [D.size] at hi
      have : i = 0 := by omega
      subst this
      exact ⟨.slice none 0 0, .slice (.base t), rfl, rfl, none, 0, 0, rfl, Nat.le_refl _, Nat.zero_le _, Nat.zero_le _, rfl⟩
    · simp only [seenV, k1]
      cases ao <;> rfl
  · rcases k4 with k4 | ⟨b', o', hao', k4⟩
    · omega
    rw [hao] at hao'
    cases hao'
    rw [hz] at q5
    cases q5
    have hel : ∀ i, i < l → RdV Z w e (fun j => w.cell? ⟨b, j, none⟩) (o + i * e.size) ∧ SmV m w e (fun j => w.cell? ⟨b, j, none⟩) (o + i * e.size) := fun i hi => ⟨(k4 i hi).v, s2 b o hao i hi⟩
    have hty : ∀ S, TypedBy P χ S ncs (perK e.cts cap) := fun S => perK_typed (by rw [D.cts_len]; exact q3) fun i v ct hv hc => by
      rw [D.cts_len] at hc
      rcases Nat.lt_or_ge i (l * e.size) with hlt | hge
      · rw [q4 i hlt] at hv
        have hq : i / e.size < l := by rw [Nat.div_lt_iff_lt_mul (by omega)]; exact hlt
        obtain ⟨v', ct', r1, r2, r3⟩ := flat_cells (P := P) hmLB hf (hel _ hq).1 (hel _ hq).2 χ (i % e.size) (Nat.mod_lt _ (by omega))
        have e1 : o + i / e.size * e.size + i % e.size = o + i := by rw [Nat.add_assoc, Nat.div_add_mod']
        simp only [e1] at r1
        rw [hv] at r1
        rw [hc] at r2
        cases r1; cases r2
        exact r3 S
      · have hi : i < cap * e.size := by rw [← q3]; exact (Array.getElem?_eq_some_iff.1 hv).1
        rw [q6 i hge hi] at hv
        obtain ⟨u, hu, hfit⟩ := constFitL_get hzf hc
        rw [Array.getElem?_toList] at hu
        rw [hv] at hu
        cases hu
        exact constFit_ok hfit
    have hinv' : Inv P (χ.alloc w.heap.size true (perK e.cts cap)) (w.drew.alloc (.cells ncs t)) := Inv.alloc (w := w.drew) hinv.drew.1 true _ _ _ _ (hty _) (fun _ i hi h => by omega)
    have hrow : RowOK (χ.alloc w.heap.size true (perK e.cts cap)) (χ.alloc w.heap.size true (perK e.cts cap)).A e.cts (some ⟨w.heap.size, 0, none⟩) cap := by
      refine ⟨rfl, .inr rfl, fun i hi => ?_⟩
      simp only [Chi.alloc, if_true, Nat.zero_add, perK, hi]
    refine ⟨#[.slice (some ⟨w.heap.size, 0, none⟩) l cap], _, rfl, rfl, ⟨Ext.alloc hinv.1 0 _ _, fun b hb => ?_, ⟨hinv', fun b hb => ?_⟩, ?_⟩, ⟨fun i hi => ?_, fun st => ?_⟩⟩
    · rcases hb with hb | hb
      · exact .inl hb
      · exact .inr (by omega)
    · rcases hb with hb | hb
      · exact .inl (hinv.2 b hb)
      · exact .inr ⟨rfl, hb⟩
    · exact grown_trans (grown_drew (grown_refl w)) (grown_alloc _ _)
    · simp only [D.size] at hi
      have : i = 0 := by omega
      subst this
      exact ⟨_, .slice (.base t), rfl, rfl, _, l, cap, rfl, q1, s1, q2, by rw [htau]; exact hrow⟩
    · simp only [seenV, k1, List.getElem?_toArray, List.getElem?_cons_zero, hao, cellRow]
      refine rowLoop_congr fun j st _ hj => ?_
      rw [seen_V, seen_V, seenV_flat w _ e hf]
      refine seenV_congr w e st fun i hi => ?_
      have hlt : j * e.size + i < l * e.size := by
        have : (j + 1) * e.size ≤ l * e.size := Nat.mul_le_mul_right _ (by omega)
        rw [Nat.succ_mul] at this; omega
      have hb2 : (w.drew.alloc (.cells ncs t)).heap[w.heap.size]? = some (.cells ncs t (0, 0)) := by
        have := alloc_get w.drew (.cells ncs t) w.heap.size
        rw [this, if_pos (show w.heap.size = w.drew.heap.size from rfl)]
      rw [cell?_blk hb2, Nat.zero_add, q4 _ hlt, Nat.add_assoc]

end Go.Sx

namespace Go.Sx
open Go

abbrev pk (agg : Bool) (cs : Array Value) : Value := if agg then .agg cs else cs.getD 0 undef

theorem pk_cells {agg : Bool} {cs : Array Value} (h1 : agg = false → cs.size = 1) (hone : ∀ v ∈ cs.toList, v.oneCell' = true) : (pk agg cs).cells = cs := by
  cases agg with
  | true => rfl
  | false =>
    have hs := h1 rfl
    have : ∃ v, cs = #[v] := by
      rcases cs with ⟨l⟩
      match l, hs with
      | [v], _ => exact ⟨v, rfl⟩
    obtain ⟨v, rfl⟩ := this
    simp only [pk, Bool.false_eq_true, if_false]
    exact cells_of_one (hone v (by simp))

theorem wp_loadC {P : Program} {o : Oper} {x : Operand} {T : Nat} {agg : Bool} {sz : Nat} {a : Act} {w : World} {K : Act → World → Prop} {Q : Exit → Act → World → Prop} (ho : o.op = .load T x) (hagg : aggOf P T = some agg) (hsz : sizeAt P T = some sz) (h1 : agg = false → sz = 1)
    {b off : Nat} (hx : a.eval x = .pointer (some ⟨b, off, none⟩)) {cs : Array Value} {E : TypeId} {fz : Nat × Nat} (hblk : w.heap[b]? = some (.cells cs E fz)) (hle : off + sz ≤ cs.size) (h : K (a.put o.dst (pk agg (cs.extract off (off + sz)))) w) : o.wp P a w K Q := by
  refine Oper.wp_val (v := pk agg (cs.extract off (off + sz))) ?_ h
  cases agg with
  | true =>
    have hl := run_loadCells_blk P hblk off sz hle
    simp [execOp, ho, Instr.loadAt, Instr.sureAddr, hx, loadVar, run_aggOf hagg, run_sizeAt hsz, hl]
  | false =>
    have := h1 rfl
    subst this
    have hlt : off < cs.size := by omega
    have hl : (load ⟨b, off, none⟩).run P w = .ok cs[off] w := by rw [run_load, cell?_blk hblk]; simp [hlt]
    have e : pk false (cs.extract off (off + 1)) = cs[off] := by
      simp only [pk, Bool.false_eq_true, if_false, Array.getD_eq_getD_getElem?, Array.getElem?_extract]
      rw [if_pos (by omega)]
      simp [hlt]
    rw [e]
    simp [execOp, ho, Instr.loadAt, Instr.sureAddr, hx, loadVar, run_aggOf hagg, hl, -run_load]

theorem wp_storeC {P : Program} {o : Oper} {x y : Operand} {T sz : Nat} {a : Act} {w : World} {K : Act → World → Prop} {Q : Exit → Act → World → Prop} (ho : o.op = .store T x y) (hd : o.dst = none) (hsz : sizeAt P T = some sz)
    {b off : Nat} (hx : a.eval x = .pointer (some ⟨b, off, none⟩)) {vs : Array Value} (hy : (a.eval y).cells = vs) (hvs : vs.size = sz) (hone : ∀ v ∈ vs.toList, v.oneCell' = true) {cs : Array Value} {E : TypeId} (hblk : w.heap[b]? = some (.cells cs E (0, 0))) (hle : off + sz ≤ cs.size)
    (h : K a (setBlk w b (.cells (spl cs off vs.toList) E (0, 0)))) : o.wp P a w K Q := by
  have hst := run_storeCells_blk P vs.toList b off 0 w cs E (0, 0) hblk (by simp; omega) (fun j _ h => by omega) hone
  simp only [Nat.add_zero] at hst
  refine Oper.wp_skip (w' := setBlk w b (.cells (spl cs off vs.toList) E (0, 0))) ?_ (by rw [hd]; exact h)
  simp [execOp, ho, Instr.storeAt, hx, Instr.sureAddr, storeVar, run_sizeAt hsz, hy, hvs, hst]

theorem wp_box {P : Program} {o : Oper} {x : Operand} {T : Nat} {a : Act} {w : World} {K : Act → World → Prop} {Q : Exit → Act → World → Prop} (ho : o.op = .box T x) {vs : Array Value} (hx : (a.eval x).cells = vs)
    (h : K (a.put o.dst (.pointer (some ⟨w.heap.size, 0, none⟩))) (w.alloc (.cells vs T))) : o.wp P a w K Q :=
  Oper.wp_val (v := .pointer (some ⟨w.heap.size, 0, none⟩)) (w' := w.alloc (.cells vs T)) (by simp [execOp, ho, Instr.box, newVar, newRow, hx]) h

theorem wp_alloc {P : Program} {o : Oper} {T : Nat} {a : Act} {w : World} {K : Act → World → Prop} {Q : Exit → Act → World → Prop} (ho : o.op = .alloc T) {z : Value} (hz : zeroAt P T = some z)
    (h : K (a.put o.dst (.pointer (some ⟨w.heap.size, 0, none⟩))) (w.alloc (.cells z.cells T))) : o.wp P a w K Q :=
  Oper.wp_val (v := .pointer (some ⟨w.heap.size, 0, none⟩)) (w' := w.alloc (.cells z.cells T)) (by simp [execOp, ho, Instr.alloc, run_zeroAt hz, newVar, newRow]) h

structure OwnSt (P : Program) (n bb rb T : Nat) (w0 : World) (χ0 : Chi) (a : Act) (w : World) (χ : Chi) (cs rcs : Array Value) : Prop where
  size : a.tmps.size = n
  defers : a.defers = []
  t1 : a.eval (.tmp 1) = .pointer (some ⟨bb, 0, none⟩)
  t2 : a.eval (.tmp 2) = .pointer (some ⟨rb, 0, none⟩)
  gb : w0.heap.size ≤ bb
  gr : w0.heap.size ≤ rb
  ne : bb ≠ rb
  hb : w.heap[bb]? = some (.cells cs T (0, 0))
  hr : w.heap[rb]? = some (.cells rcs T (0, 0))
  rsz : rcs.size = cs.size
  nb : ¬ χ.A bb
  nr : ¬ χ.A rb
  g : Grows P χ0 w0 χ w

theorem OwnSt.put {P : Program} {n bb rb T : Nat} {w0 : World} {χ0 : Chi} {a : Act} {w : World} {χ : Chi} {cs rcs : Array Value} (h : OwnSt P n bb rb T w0 χ0 a w χ cs rcs) {d : Nat} (hd : 3 ≤ d) (v : Value) : OwnSt P n bb rb T w0 χ0 (a.put (some d) v) w χ cs rcs :=
  { h with
    size := by rw [put_size]; exact h.size
    defers := by rw [Act.put_defers]; exact h.defers
    t1 := by rw [eval_put, if_neg (by omega)]; exact h.t1
    t2 := by rw [eval_put, if_neg (by omega)]; exact h.t2 }

def OwnRun (P : Program) (m n T sz : Nat) (fn : Func) (c : Code) (l : List (Nat × D)) : Prop :=
  ∀ (R : Ending → World → Prop) (a : Act) (w : World) (χ : Chi) (cs rcs cs0 : Array Value) (w0 : World) (χ0 : Chi) (Z : Nat → Prop) (bb rb : Nat), cs0.size = sz → OwnSt P n bb rb T w0 χ0 a w χ cs rcs → cs.size = cs0.size → (∀ v ∈ cs.toList, v.oneCell' = true) → (∀ b, Z b → b < w0.heap.size) →
    (∀ p ∈ l, p.1 + p.2.size ≤ cs0.size ∧ RdV Z w0 p.2 (fun i => cs0[i]?) p.1 ∧ SmV m w0 p.2 (fun i => cs0[i]?) p.1 ∧ ∀ i, i < p.2.size → cs[p.1 + i]? = cs0[p.1 + i]?) →
    (∀ w' χ' cs', Grows P χ0 w0 χ' w' → cs'.size = cs0.size → (∀ i, (∀ p ∈ l, ¬ (p.1 ≤ i ∧ i < p.1 + p.2.size)) → cs'[i]? = cs[i]?) → (∀ p ∈ l, PartOK P m w0 χ' w' p.2 (fun i => cs0[i]?) (fun i => cs'[i]?) p.1) →
      Ext 0 χ χ' → (∀ b, χ.A b → w'.heap[b]? = w.heap[b]?) → R (.returned (.agg cs')) w') → c.wp P (bodyPost P fn R) a w

theorem OwnRun.fin {P : Program} {m n T id u sz y1 y2 : Nat} {p1 p2 : String} {f1 f2 : Array Edge} {fn : Func} (hr : fn.results = #[.cell 2 T]) (hagg : aggOf P T = some true) (hsz : sizeAt P T = some sz) (hu : (Nat.ble 3 u && Nat.blt u n) = true) :
    OwnRun P m n T sz fn (.seq (.region id #[⟨some u, .load T (.tmp 1), y1, p1, f1, none⟩, ⟨none, .store T (.tmp 2) (.tmp u), y2, p2, f2, none⟩] false) .ret) [] := by
  intro R a w χ cs rcs cs0 w0 χ0 Z bb rb hcs0 hst hcsz hone _ _ hfin
  simp only [Bool.and_eq_true, Nat.ble_eq, Nat.blt_eq] at hu
  have hex : cs.extract 0 (0 + sz) = cs := by rw [Nat.zero_add, ← hcs0, ← hcsz]; simp
  refine wp_seq (wp_region (wpOps2 rfl rfl (wp_loadC (b := bb) (off := 0) rfl hagg hsz (fun h => by cases h) hst.t1 hst.hb (by omega) (wp_storeC (b := rb) (off := 0) rfl rfl hsz ?_ (vs := cs) ?_ (by omega) hone hst.hr (by have := hst.rsz; omega) ?_))))
  · exact (hst.put (d := u) hu.1 _).t2
  · rw [eval_put, if_pos ⟨rfl, by rw [hst.size]; exact hu.2⟩, hex]; rfl
  · have hlt := lt_of_blk hst.hr
    have hget : (setBlk w rb (.cells (spl rcs 0 cs.toList) T (0, 0))).heap[rb]? = some (.cells cs T (0, 0)) := by
      rw [setBlk_get hlt, if_pos rfl]
      have : spl rcs 0 cs.toList = cs := by
        apply Array.ext_getElem?
        intro i
        rw [spl_get _ _ _ _ (by simp; rw [hst.rsz]; exact Nat.le_refl _)]
        simp only [Array.length_toList, Nat.zero_add, Nat.zero_le, true_and, Nat.sub_zero, Array.getElem?_toList]
        split
        · rfl
        · rename_i hge
          rw [Array.getElem?_eq_none (by rw [hst.rsz]; omega), Array.getElem?_eq_none (by omega)]
      rw [this]
    have hs : ∀ b, χ.A b → (setBlk w rb (.cells (spl rcs 0 cs.toList) T (0, 0))).heap[b]? = w.heap[b]? := fun b hb => by
      rw [setBlk_get hlt, if_neg (fun (e : b = rb) => hst.nr (e ▸ hb))]
    refine wp_ret ⟨by rw [Act.put_defers]; exact hst.defers, .agg cs, ?_, ?_⟩
    · have hl := run_loadCells_blk P hget 0 sz (by omega)
      rw [hex] at hl
      have ht2 := (hst.put (d := u) hu.1 (pk true (cs.extract 0 (0 + sz)))).t2
      have ht2' : (a.put (some u) (pk true (cs.extract 0 (0 + sz)))).tmps.getD 2 undef = .pointer (some ⟨rb, 0, none⟩) := ht2
      refine results_run (vs := [.agg cs]) ?_
      rw [hr, show (#[ResultVar.cell 2 T] : Array ResultVar).toList = [ResultVar.cell 2 T] from rfl, List.mapM_cons, Sem.run_bind]
      rw [show rdRes (a.put (some u) (pk true (cs.extract 0 (0 + sz)))).tmps (.cell 2 T) = (do loadVar T (← asAddr ((a.put (some u) (pk true (cs.extract 0 (0 + sz)))).tmps.getD 2 undef))) from rfl, ht2']
      have : (do loadVar T (← asAddr (.pointer (some ⟨rb, 0, none⟩))) : Sem Value).run P (setBlk w rb (.cells (spl rcs 0 cs.toList) T (0, 0))) = .ok (.agg cs) (setBlk w rb (.cells (spl rcs 0 cs.toList) T (0, 0))) := by
        simp [asAddr, loadVar, run_aggOf hagg, run_sizeAt hsz, hl]
      rw [this]
      rfl
    · refine hfin _ χ cs ⟨hst.g.ext, hst.g.new, hst.g.inv.same hs, ⟨hst.g.grown.os, hst.g.grown.tape, hst.g.grown.output, by rw [setBlk_size]; exact hst.g.grown.size, fun k hk hn => ?_⟩⟩ hcsz (fun _ _ => rfl) (fun p hp => nomatch hp) (Ext.refl _ _) hs
      rw [setBlk_get hlt, if_neg (by have := hst.gr; omega)]
      exact hst.g.grown.block k hk hn

def apartB (off : Nat) (d : D) : List (Nat × D) → Bool
  | [] => true
  | p :: l => (Nat.ble (off + d.size) p.1 || Nat.ble (p.1 + p.2.size) off) && apartB off d l

theorem apartB_ok {off : Nat} {d : D} : ∀ {l : List (Nat × D)}, apartB off d l = true → ∀ p ∈ l, off + d.size ≤ p.1 ∨ p.1 + p.2.size ≤ off := by
  intro l
  induction l with
  | nil => intro _ p hp; cases hp
  | cons q l ih =>
    intro h p hp
    simp only [apartB, Bool.and_eq_true, Bool.or_eq_true, Nat.ble_eq] at h
    rcases List.mem_cons.1 hp with rfl | hp
    · exact h.1
    · exact ih h.2 p hp

structure OSlots (n u1 u2 u3 u4 : Nat) : Prop where
  h1 : 3 ≤ u1
  h2 : 3 ≤ u2
  h3 : 3 ≤ u3
  h4 : 3 ≤ u4
  l1 : u1 < n
  l2 : u2 < n
  l3 : u3 < n
  l4 : u4 < n
  d34 : u3 ≠ u4

def oslotsB (n u1 u2 u3 u4 : Nat) : Bool := Nat.ble 3 u1 && Nat.ble 3 u2 && Nat.ble 3 u3 && Nat.ble 3 u4 && Nat.blt u1 n && Nat.blt u2 n && Nat.blt u3 n && Nat.blt u4 n && !(Nat.beq u3 u4)

theorem oslots_of {n u1 u2 u3 u4 : Nat} (h : oslotsB n u1 u2 u3 u4 = true) : OSlots n u1 u2 u3 u4 := by
  simp only [oslotsB, Bool.and_eq_true, Nat.ble_eq, Nat.blt_eq, Bool.not_eq_true'] at h
  obtain ⟨⟨⟨⟨⟨⟨⟨⟨p1, p2⟩, p3⟩, p4⟩, p5⟩, p6⟩, p7⟩, p8⟩, p9⟩ := h
  exact ⟨p1, p2, p3, p4, p5, p6, p7, p8, fun e => by rw [e, Nat.beq_refl] at p9; cases p9⟩

set_option maxHeartbeats 1000000 in
theorem OwnRun.cons {P : Program} {m n T sz off id u1 u2 u3 u4 i T' g y1 y2 y3 y4 y5 : Nat} {p1 p2 p3 p4 p5 : String} {f1 f2 f3 f4 f5 : Array Edge} {tys : Array Nat} {agg : Bool} {fn : Func} {d : D} {rest : Code} {l : List (Nat × D)}
    (hm : m ≤ LB) (hown : OwnOK P m g agg d) (hok : d.ok P) (hsl : oslotsB n u1 u2 u3 u4 = true) (hff : fieldAtP P T i off = true) (hcc : callable P g = true) (hagg : aggOf P T' = some agg) (hsz' : sizeAt P T' = some d.size) (h1 : (agg || Nat.beq d.size 1) = true) (hap : apartB off d l = true)
    (hrest : OwnRun P m n T sz fn rest l) :
    OwnRun P m n T sz fn (.seq (.region id #[⟨some u1, .fieldAddr T (.tmp 1) i, y1, p1, f1, none⟩, ⟨some u2, .load T' (.tmp u1), y2, p2, f2, none⟩, ⟨some u3, .call ⟨.value (.func g), #[.tmp u2], tys⟩, y3, p3, f3, none⟩, ⟨some u4, .fieldAddr T (.tmp 1) i, y4, p4, f4, none⟩,
      ⟨none, .store T' (.tmp u4) (.tmp u3), y5, p5, f5, none⟩] false) rest) ((off, d) :: l) := by
  intro R a w χ cs rcs cs0 w0 χ0 Z bb rb hcs0 hst hcsz hone hZ hpre hfin
  obtain ⟨q1, q2, q3, q4, l1, l2, l3, l4, d34⟩ := oslots_of hsl
  obtain ⟨fs, f, fsz, hu, hf, rfl, hfsz⟩ := fieldAtP_ok hff
  obtain ⟨gfn, hg, hgb, hgn⟩ := callable_ok hcc
  have h1' : agg = false → d.size = 1 := fun h => by rw [h] at h1; simpa using h1
  obtain ⟨e1, e2, e3, e4⟩ := hpre (f.offset, d) (by simp)
  simp only at e1 e2 e3 e4
  have hn := hst.size
  have hZs : ∀ b, Z b → w.heap[b]? = w0.heap[b]? := fun b hb => hst.g.grown.block b (hZ b hb) (by simp)
  have hexg : ∀ i, i < d.size → (cs.extract f.offset (f.offset + d.size))[0 + i]? = cs0[f.offset + i]? := fun i hi => by
    rw [Nat.zero_add, Array.getElem?_extract, if_pos (by omega)]; exact e4 i hi
  have hrdv : RdV Z w d (fun i => (cs.extract f.offset (f.offset + d.size))[i]?) 0 := (e2.same hZs).congr d fun i hi => (hexg i hi).symm
  have hsmv : SmV m w d (fun i => (cs.extract f.offset (f.offset + d.size))[i]?) 0 := (e3.same hZs d e2).congr d fun i hi => (hexg i hi).symm
  have hexs : (cs.extract f.offset (f.offset + d.size)).size = d.size := by simp; omega
  have s1 := hst.put q1 (.pointer (some ⟨bb, 0 + f.offset, none⟩))
  have s2 := s1.put q2 (pk agg (cs.extract f.offset (f.offset + d.size)))
  refine wp_seq (wp_region (wpOps5 rfl rfl rfl rfl rfl ?_))
  refine wp_fieldAddr (b := bb) (off := 0) rfl hu hf hfsz hst.t1 (wp_loadC (b := bb) (off := 0 + f.offset) rfl hagg hsz' h1' ?_ hst.hb (by omega) (wp_callF rfl rfl hg hgb hgn (vs := #[pk agg (cs.extract f.offset (f.offset + d.size))]) ?_ ?_))
  · rw [eval_put, if_pos ⟨rfl, by omega⟩]
  · simp only [List.map_toArray, List.map_cons, List.map_nil]
    rw [eval_put, if_pos ⟨rfl, by rw [put_size]; omega⟩, Nat.zero_add]
  · refine (hown w χ Z (cs.extract f.offset (f.offset + d.size)) hst.g.inv (fun b hb => Nat.lt_of_lt_of_le (hZ b hb) hst.g.grown.size) hexs hrdv hsmv).mono ?_
    rintro en w' ⟨cs', χ', rfl, hcs', hgr, hpart⟩
    refine ⟨_, rfl, ?_⟩
    rw [Nat.zero_add] at s1 ⊢
    have hbw : bb < w.heap.size := lt_of_blk hst.hb
    have hrw : rb < w.heap.size := lt_of_blk hst.hr
    have hb' : w'.heap[bb]? = some (.cells cs T (0, 0)) := (hgr.grown.block bb hbw (by simp)).trans hst.hb
    have hr' : w'.heap[rb]? = some (.cells rcs T (0, 0)) := (hgr.grown.block rb hrw (by simp)).trans hst.hr
    have nb' : ¬ χ'.A bb := fun h => by rcases hgr.new bb h with h | h; exact hst.nb h; omega
    have nr' : ¬ χ'.A rb := fun h => by rcases hgr.new rb h with h | h; exact hst.nr h; omega
    have hone' : ∀ v ∈ cs'.toList, v.oneCell' = true := by
      intro v hv
      obtain ⟨j, hj, rfl⟩ := List.getElem_of_mem hv
      simp only [Array.length_toList] at hj
      obtain ⟨v, ct, k1, _, k3⟩ := hpart.ty j (by omega)
      simp only [Nat.zero_add] at k1
      rw [Array.getElem?_eq_getElem hj] at k1
      cases k1
      simpa using k3.one
    have hpc : (pk agg cs').cells = cs' := pk_cells (fun h => by rw [hcs']; exact h1' h) hone'
    have hlt' := lt_of_blk hb'
    have s3 : OwnSt P n bb rb T w0 χ0 ((((a.put (some u1) (.pointer (some ⟨bb, f.offset, none⟩))).put (some u2) (pk agg (cs.extract f.offset (f.offset + d.size)))).put (some u3) (pk agg cs')).put (some u4) (.pointer (some ⟨bb, 0 + f.offset, none⟩)))
        (setBlk w' bb (.cells (spl cs f.offset cs'.toList) T (0, 0))) χ' (spl cs f.offset cs'.toList) rcs := by
      have hp := (((hst.put q1 (.pointer (some ⟨bb, f.offset, none⟩))).put q2 (pk agg (cs.extract f.offset (f.offset + d.size)))).put q3 (pk agg cs')).put q4 (.pointer (some ⟨bb, 0 + f.offset, none⟩))
      have hs : ∀ b, χ'.A b → (setBlk w' bb (.cells (spl cs f.offset cs'.toList) T (0, 0))).heap[b]? = w'.heap[b]? := fun b hb => by
        rw [setBlk_get hlt', if_neg (fun (e : b = bb) => nb' (e ▸ hb))]
      have hg2 := hst.g.trans hgr
      refine ⟨hp.size, hp.defers, hp.t1, hp.t2, hst.gb, hst.gr, hst.ne, ?_, ?_, by rw [spl_size]; exact hst.rsz, nb', nr', ⟨hg2.ext, hg2.new, hg2.inv.same hs, ⟨hg2.grown.os, hg2.grown.tape, hg2.grown.output, by rw [setBlk_size]; exact hg2.grown.size, fun k hk hn => ?_⟩⟩⟩
      · rw [setBlk_get hlt', if_pos rfl]
      · rw [setBlk_get hlt', if_neg (Ne.symm hst.ne)]; exact hr'
      · rw [setBlk_get hlt', if_neg (by have := hst.gb; omega)]
        exact hg2.grown.block k hk hn
    have hspl : ∀ i, (spl cs f.offset cs'.toList)[i]? = if f.offset ≤ i ∧ i < f.offset + d.size then cs'[i - f.offset]? else cs[i]? := fun i => by
      rw [spl_get _ _ _ _ (by simp; omega)]
      simp only [Array.length_toList, hcs', Array.getElem?_toList]
    generalize ha3 : (((a.put (some u1) (.pointer (some ⟨bb, f.offset, none⟩))).put (some u2) (pk agg (cs.extract f.offset (f.offset + d.size)))).put (some u3) (pk agg cs')) = a3
    have hz3 : a3.tmps.size = n := by rw [← ha3]; simp only [put_size]; exact hn
    have ht3 : a3.eval (.tmp 1) = .pointer (some ⟨bb, 0, none⟩) := by
      rw [← ha3]; exact (((hst.put q1 (.pointer (some ⟨bb, f.offset, none⟩))).put q2 (pk agg (cs.extract f.offset (f.offset + d.size)))).put q3 (pk agg cs')).t1
    have hv3 : a3.eval (.tmp u3) = pk agg cs' := by rw [← ha3, eval_put, if_pos ⟨rfl, by simp only [put_size]; omega⟩]
    rw [ha3] at s3
    refine wp_fieldAddr (b := bb) (off := 0) rfl hu hf hfsz ht3 ?_
    refine wp_storeC (b := bb) (off := 0 + f.offset) (sz := d.size) rfl rfl hsz' ?_ (vs := cs') ?_ hcs' hone' hb' (by omega) ?_
    · rw [eval_put, if_pos ⟨rfl, by omega⟩]
    · rw [eval_put, if_neg (by omega), hv3]; exact hpc
    · rw [Nat.zero_add] at s3 ⊢
      have hs2 : ∀ b, χ'.A b → (setBlk w' bb (.cells (spl cs f.offset cs'.toList) T (0, 0))).heap[b]? = w'.heap[b]? := fun b hb => by
        rw [setBlk_get hlt', if_neg (fun (e : b = bb) => nb' (e ▸ hb))]
      have hpart2 : PartOK P m w0 χ' (setBlk w' bb (.cells (spl cs f.offset cs'.toList) T (0, 0))) d (fun i => cs0[i]?) (fun i => (spl cs f.offset cs'.toList)[i]?) f.offset := by
        have hcg : ∀ i, i < d.size → (fun i => (spl cs f.offset cs'.toList)[i]?) (f.offset + i) = (fun i => cs'[i]?) (0 + i) := fun i hi => by
          simp only [hspl]
          rw [if_pos (by omega), Nat.zero_add, show f.offset + i - f.offset = i by omega]
        refine ⟨fun i hi => ?_, fun st => ?_⟩
        · obtain ⟨v, ct, k1, k2, k3⟩ := hpart.ty i hi
          exact ⟨v, ct, (hcg i hi).trans k1, k2, k3⟩
        · rw [seenV_congr _ d (p := 0) (g := fun i => cs'[i]?) st hcg, seenV_same hs2 d (PartOK.rdv hgr.inv hm d hok hpart.ty) st, hpart.eq st]
          rw [seenV_congr w d (p := f.offset) (g := fun i => cs0[i]?) st hexg]
          exact seenV_same hZs d e2 st
      refine hrest R _ _ χ' _ rcs cs0 w0 χ0 Z bb rb hcs0 s3 (by rw [spl_size]; exact hcsz) ?_ hZ ?_ ?_
      · intro v hv
        obtain ⟨j, hj⟩ := List.mem_iff_getElem?.1 hv
        rw [Array.getElem?_toList, hspl] at hj
        split at hj
        · exact hone' _ (by rw [Array.mem_toList_iff]; exact Array.mem_of_getElem? hj)
        · exact hone _ (by rw [Array.mem_toList_iff]; exact Array.mem_of_getElem? hj)
      · intro p hp
        obtain ⟨k1, k2, k3, k4⟩ := hpre p (List.mem_cons_of_mem _ hp)
        refine ⟨k1, k2, k3, fun i hi => ?_⟩
        rw [hspl, if_neg (by have := apartB_ok hap p hp; omega)]
        exact k4 i hi
      · intro w'' χ'' cs'' r1 r2 r3 r4 r5 r6
        refine hfin w'' χ'' cs'' r1 r2 (fun i hi => ?_) (fun p hp => ?_) (hgr.ext.trans r5) fun b hb => ?_
        · rw [r3 i fun p hp => hi p (List.mem_cons_of_mem _ hp), hspl, if_neg (hi (f.offset, d) (by simp))]
        · rcases List.mem_cons.1 hp with rfl | hp
          · refine hpart2.step s3.g.inv hm hok r5 r6 fun i hi => ?_
            exact r3 _ fun p hp => by have := apartB_ok hap p hp; omega
          · exact r4 p hp
        · rw [r6 b (hgr.ext.A b hb), hs2 b (hgr.ext.A b hb)]
          exact hgr.grown.block b (hst.g.inv.1.lt hb) (by simp)

end Go.Sx

namespace Go.Sx
open Go

def D.beq : D → D → Bool
  | .int k, .int k' => keq k k'
  | .bool, .bool | .str, .str | .nil, .nil => true
  | .seq a b, .seq c d => a.beq c && b.beq d
  | .row t e, .row u f => Nat.beq t u && e.beq f
  | .stop l, .stop m => ctsB l m
  | .strs a, .strs b => Nat.beq a b
  | _, _ => false

theorem D.beq_eq : ∀ {a b : D}, a.beq b = true → a = b := by
  intro a
  induction a with
  | int k => intro b h; cases b <;> simp [D.beq] at h; rw [keq_eq h]
  | bool => intro b h; cases b <;> simp [D.beq] at h; rfl
  | str => intro b h; cases b <;> simp [D.beq] at h; rfl
  | nil => intro b h; cases b <;> simp [D.beq] at h; rfl
  | seq x y ihx ihy => intro b h; cases b <;> simp [D.beq] at h; rw [ihx h.1, ihy h.2]
  | row t e ih => intro b h; cases b <;> simp [D.beq] at h; rw [h.1, ih h.2]
  | stop l => intro b h; cases b <;> simp [D.beq] at h; rw [ctsB_eq h]
  | strs t => intro b h; cases b <;> simp [D.beq] at h; rw [h]

def memB (l : List (Nat × D)) (o : Nat) (d : D) : Bool := l.any fun p => Nat.beq p.1 o && p.2.beq d

theorem memB_ok {l : List (Nat × D)} {o : Nat} {d : D} (h : memB l o d = true) : (o, d) ∈ l := by
  simp only [memB, List.any_eq_true, Bool.and_eq_true] at h
  obtain ⟨p, hp, h1, h2⟩ := h
  have h1 : p.1 = o := by simpa using h1
  have h2 := D.beq_eq h2
  subst h1; subst h2
  exact hp

def coverB (l : List (Nat × D)) : D → Nat → Bool
  | .seq x y, o => memB l o (.seq x y) || (((D.seq x y).flat && apartB o (.seq x y) l) || (coverB l x o && coverB l y (o + x.size)))
  | d, o => memB l o d || (d.flat && apartB o d l)

def CoverP (l : List (Nat × D)) : D → Nat → Prop
  | .seq x y, o => (o, .seq x y) ∈ l ∨ ((D.seq x y).flat && apartB o (.seq x y) l) = true ∨ (CoverP l x o ∧ CoverP l y (o + x.size))
  | d, o => (o, d) ∈ l ∨ (d.flat && apartB o d l) = true

theorem coverB_P {l : List (Nat × D)} : ∀ (d : D) (o : Nat), coverB l d o = true → CoverP l d o := by
  have base : ∀ (d : D) (o : Nat), (memB l o d || (d.flat && apartB o d l)) = true → (o, d) ∈ l ∨ (d.flat && apartB o d l) = true := by
    intro d o h
    simp only [Bool.or_eq_true] at h
    exact h.imp memB_ok id
  intro d
  induction d with
  | seq x y ihx ihy =>
    intro o h
    simp only [coverB, Bool.or_eq_true] at h
    rcases h with h | h | h
    · exact .inl (memB_ok h)
    · exact .inr (.inl h)
    · simp only [Bool.and_eq_true] at h
      exact .inr (.inr ⟨ihx o h.1, ihy _ h.2⟩)
  | int k => intro o h; exact base _ _ h
  | bool => intro o h; exact base _ _ h
  | str => intro o h; exact base _ _ h
  | nil => intro o h; exact base _ _ h
  | stop l => intro o h; exact base _ _ h
  | strs l => intro o h; exact base _ _ h
  | row t e _ => intro o h; exact base _ _ h

theorem cover_ok {P : Program} {m : Nat} {w0 w : World} {χ : Chi} {Z : Nat → Prop} {f g : Nat → Option Value} {l : List (Nat × D)} (hl : ∀ p ∈ l, PartOK P m w0 χ w p.2 f g p.1) (hun : ∀ i, (∀ p ∈ l, ¬ (p.1 ≤ i ∧ i < p.1 + p.2.size)) → g i = f i) :
    ∀ (d : D) (o : Nat), CoverP l d o → RdV Z w0 d f o → SmV m w0 d f o → PartOK P m w0 χ w d f g o := by
  have base : ∀ (d : D) (o : Nat), ((o, d) ∈ l ∨ (d.flat && apartB o d l) = true) → RdV Z w0 d f o → SmV m w0 d f o → PartOK P m w0 χ w d f g o := by
    intro d o h hr hs
    simp only [Bool.and_eq_true] at h
    rcases h with h | ⟨h1, h2⟩
    · exact hl _ h
    · have hp := PartOK.of_flat (P := P) (m := m) (w := w) (χ := χ) d h1 hr hs
      have hcg : ∀ i, i < d.size → g (o + i) = f (o + i) := fun i hi => hun _ fun p hp => by have := apartB_ok h2 p hp; omega
      exact ⟨fun i hi => by obtain ⟨v, ct, k1, k2, k3⟩ := hp.ty i hi; exact ⟨v, ct, (hcg i hi).trans k1, k2, k3⟩, fun st => (seenV_congr w d st hcg).trans (hp.eq st)⟩
  intro d
  induction d with
  | seq x y ihx ihy =>
    intro o h hr hs
    rcases h with h | h | ⟨h1, h2⟩
    · exact base _ _ (.inl h) hr hs
    · exact base _ _ (.inr h) hr hs
    · simp only [SmV] at hs
      exact (ihx o h1 hr.1 hs.1).seq (ihy _ h2 hr.2 hs.2)
  | int k => intro o h hr hs; exact base _ _ h hr hs
  | bool => intro o h hr hs; exact base _ _ h hr hs
  | str => intro o h hr hs; exact base _ _ h hr hs
  | nil => intro o h hr hs; exact base _ _ h hr hs
  | stop l => intro o h hr hs; exact base _ _ h hr hs
  | strs l => intro o h hr hs; exact base _ _ h hr hs
  | row t e _ => intro o h hr hs; exact base _ _ h hr hs

theorem OwnOK.of_run {P : Program} {m g n T id y1 y2 : Nat} {p1 p2 : String} {f1 f2 : Array Edge} {fn : Func} {c : Code} {d : D} {l : List (Nat × D)} (hf : P.funcs[g]? = some fn) (hn : fn.ntmps = n) (hn3 : Nat.ble 3 n = true)
    {z : Value} (hz : zeroAt P T = some z) (hzs : z.cells.size = d.size) (hb : fn.body = some (.seq (.region id #[⟨some 1, .box T (.tmp 0), y1, p1, f1, none⟩, ⟨some 2, .alloc T, y2, p2, f2, none⟩] false) c))
    (hrun : OwnRun P m n T d.size fn c l) (hcov : CoverP l d 0) (hpart : ∀ p ∈ l, p.1 + p.2.size ≤ d.size ∧ ∀ {Z w f}, RdV Z w d f 0 → SmV m w d f 0 → RdV Z w p.2 f p.1 ∧ SmV m w p.2 f p.1) : OwnOK P m g true d := by
  have hn3 : 3 ≤ n := by simpa using hn3
  intro w χ Z cs hinv hZ hsz hr hs
  simp only [if_true]
  refine calls_of_wp hf hb ?_
  rw [hn]
  generalize ha0 : ({ tmps := #[Value.agg cs] ++ Array.replicate (n - #[Value.agg cs].size) undef, defers := [] } : Act) = a0
  have hz0 : a0.tmps.size = n := by rw [← ha0]; simp; omega
  have hd0 : a0.defers = [] := by rw [← ha0]
  have hx0 : a0.eval (.tmp 0) = .agg cs := by rw [← ha0]; simp [Act.eval, Array.getD_eq_getD_getElem?, Array.getElem?_append]
  refine wp_seq (wp_region (wpOps2 rfl rfl (wp_box rfl (vs := cs) (by rw [hx0]; rfl) (wp_alloc rfl hz ?_))))
  have hw1 : (w.alloc (.cells cs T)).heap.size = w.heap.size + 1 := by show (w.heap.push _).size = _; simp
  have hb1 : ((w.alloc (.cells cs T)).alloc (.cells z.cells T)).heap[w.heap.size]? = some (.cells cs T (0, 0)) := by rw [alloc_get, if_neg (by omega), alloc_get, if_pos rfl]
  have hb2 : ((w.alloc (.cells cs T)).alloc (.cells z.cells T)).heap[(w.alloc (.cells cs T)).heap.size]? = some (.cells z.cells T (0, 0)) := by rw [alloc_get, if_pos rfl]
  have hgr := grown_trans (grown_alloc w (.cells cs T)) (grown_alloc (w.alloc (.cells cs T)) (.cells z.cells T))
  have hsame : ∀ b, χ.A b → ((w.alloc (.cells cs T)).alloc (.cells z.cells T)).heap[b]? = w.heap[b]? := fun b hb => hgr.block b (hinv.1.lt hb) (by simp)
  have hst : OwnSt P n w.heap.size (w.alloc (.cells cs T)).heap.size T w χ ((a0.put (some 1) (.pointer (some ⟨w.heap.size, 0, none⟩))).put (some 2) (.pointer (some ⟨(w.alloc (.cells cs T)).heap.size, 0, none⟩))) ((w.alloc (.cells cs T)).alloc (.cells z.cells T)) χ cs z.cells :=
    { size := by simp only [put_size]; exact hz0
      defers := by simp only [Act.put_defers]; exact hd0
      t1 := by rw [eval_put, if_neg (by omega), eval_put, if_pos ⟨rfl, by omega⟩]
      t2 := by rw [eval_put, if_pos ⟨rfl, by simp only [put_size]; omega⟩]
      gb := Nat.le_refl _
      gr := by omega
      ne := by omega
      hb := hb1
      hr := hb2
      rsz := by rw [hzs, hsz]
      nb := fun h => by have := hinv.1.lt h; omega
      nr := fun h => by have := hinv.1.lt h; omega
      g := ⟨Ext.refl _ _, fun _ h => .inl h, hinv.same hsame, hgr⟩ }
  have hone : ∀ v ∈ cs.toList, v.oneCell' = true := by
    intro v hv
    obtain ⟨j, hj⟩ := List.mem_iff_getElem?.1 hv
    rw [Array.getElem?_toList] at hj
    have hjl := (Array.getElem?_eq_some_iff.1 hj).1
    obtain ⟨v', k1, k2⟩ := hr.cells d hs j (by omega)
    simp only [Nat.zero_add] at k1
    rw [hj] at k1
    cases k1
    exact k2
  refine hrun _ _ _ χ cs z.cells cs w χ Z _ _ hsz hst rfl hone hZ (fun p hp => ?_) ?_
  · obtain ⟨k1, k2⟩ := hpart p hp
    obtain ⟨k3, k4⟩ := k2 hr hs
    exact ⟨by omega, k3, k4, fun _ _ => rfl⟩
  · intro w' χ' cs' r1 r2 r3 r4 _ _
    exact ⟨cs', χ', rfl, by omega, r1, cover_ok r4 r3 d 0 hcov hr hs⟩

def partB : D → Nat → Nat → D → Bool
  | .seq x y, o, p, d => (Nat.beq o p && (D.seq x y).beq d) || (partB x o p d || partB y (o + x.size) p d)
  | e, o, p, d => Nat.beq o p && e.beq d

theorem partB_ok {m : Nat} {Z : Nat → Prop} {w : World} {f : Nat → Option Value} {d : D} {p : Nat} : ∀ (e : D) (o : Nat), partB e o p d = true → RdV Z w e f o → SmV m w e f o → RdV Z w d f p ∧ SmV m w d f p := by
  intro e
  have base : ∀ (e : D) (o : Nat), (Nat.beq o p && e.beq d) = true → RdV Z w e f o → SmV m w e f o → RdV Z w d f p ∧ SmV m w d f p := by
    intro e o h hr hs
    simp only [Bool.and_eq_true] at h
    have h1 : o = p := by simpa using h.1
    have h2 := D.beq_eq h.2
    subst h1; subst h2
    exact ⟨hr, hs⟩
  induction e with
  | seq x y ihx ihy =>
    intro o h hr hs
    simp only [partB, Bool.or_eq_true] at h
    rcases h with h | h | h
    · exact base _ _ h hr hs
    · simp only [SmV] at hs; exact ihx o h hr.1 hs.1
    · simp only [SmV] at hs; exact ihy _ h hr.2 hs.2
  | int k => intro o h hr hs; exact base _ _ h hr hs
  | bool => intro o h hr hs; exact base _ _ h hr hs
  | str => intro o h hr hs; exact base _ _ h hr hs
  | nil => intro o h hr hs; exact base _ _ h hr hs
  | stop l => intro o h hr hs; exact base _ _ h hr hs
  | strs l => intro o h hr hs; exact base _ _ h hr hs
  | row t e _ => intro o h hr hs; exact base _ _ h hr hs

def PartP : D → Nat → Nat → D → Prop
  | .seq x y, o, p, d => (o = p ∧ D.seq x y = d) ∨ PartP x o p d ∨ PartP y (o + x.size) p d
  | e, o, p, d => o = p ∧ e = d

def partsB (d : D) (l : List (Nat × D)) : Bool := l.all fun p => Nat.ble (p.1 + p.2.size) d.size && partB d 0 p.1 p.2

theorem partsB_ok {m : Nat} {d : D} {l : List (Nat × D)} (h : partsB d l = true) : ∀ p ∈ l, p.1 + p.2.size ≤ d.size ∧ ∀ {Z w f}, RdV Z w d f 0 → SmV m w d f 0 → RdV Z w p.2 f p.1 ∧ SmV m w p.2 f p.1 := by
  intro p hp
  have := List.all_eq_true.1 h p hp
  simp only [Bool.and_eq_true, Nat.ble_eq] at this
  exact ⟨this.1, fun hr hs => partB_ok d 0 this.2 hr hs⟩

end Go.Sx

namespace Go.Sx
open Go

theorem rowLoop_ext {f : Nat → Seen → Seen} (hf : ∀ i st, ∃ a b, f i st = (st.1 ++ a, st.2 ++ b)) : ∀ n i st, ∃ a b, rowLoop f n i st = (st.1 ++ a, st.2 ++ b) := by
  intro n
  induction n with
  | zero => intro i st; exact ⟨[], [], by simp [rowLoop]⟩
  | succ n ih =>
    intro i st
    simp only [rowLoop]
    split
    · obtain ⟨a, b, h⟩ := hf i st
      obtain ⟨a', b', h'⟩ := ih (i + 1) (f i st)
      rw [h', h]
      exact ⟨a ++ a', b ++ b', by simp⟩
    · exact ⟨[], [], by simp⟩

theorem seen_ext (w : World) : ∀ (d : D) (b o : Nat) (st : Seen), ∃ x y, seen w d b o st = (st.1 ++ x, st.2 ++ y) := by
  intro d
  induction d with
  | int k => intro b o st; exact ⟨[cellInt (w.cell? ⟨b, o, none⟩)], [], by simp [seen]⟩
  | bool => intro b o st; exact ⟨[cellBool (w.cell? ⟨b, o, none⟩)], [], by simp [seen]⟩
  | str => intro b o st; exact ⟨[], [cellStr (w.cell? ⟨b, o, none⟩)], by simp [seen]⟩
  | nil => intro b o st; exact ⟨[], [], by simp [seen]⟩
  | stop l => intro b o st; exact ⟨manyZ, [], by simp only [seen, List.append_nil]⟩
  | strs t =>
    intro b o st
    simp only [seen]
    obtain ⟨p, q, h⟩ := rowLoop_ext (f := fun i st => (st.1, st.2 ++ [cellStr (w.cell? ⟨(cellRow (w.cell? ⟨b, o, none⟩)).1, (cellRow (w.cell? ⟨b, o, none⟩)).2.1 + i * 1, none⟩)])) (fun i st => ⟨[], [_], by simp; rfl⟩) (cellRow (w.cell? ⟨b, o, none⟩)).2.2 0 (st.1 ++ [((cellRow (w.cell? ⟨b, o, none⟩)).2.2 : Int)], st.2)
    exact ⟨((cellRow (w.cell? ⟨b, o, none⟩)).2.2 : Int) :: p, q, by rw [h]; simp⟩
  | seq x y ihx ihy =>
    intro b o st
    obtain ⟨p, q, h⟩ := ihx b o st
    obtain ⟨p', q', h'⟩ := ihy b (o + x.size) (seen w x b o st)
    exact ⟨p ++ p', q ++ q', by simp only [seen]; rw [h', h]; simp⟩
  | row t e ih =>
    intro b o st
    simp only [seen]
    obtain ⟨p, q, h⟩ := rowLoop_ext (f := fun i st => seen w e (cellRow (w.cell? ⟨b, o, none⟩)).1 ((cellRow (w.cell? ⟨b, o, none⟩)).2.1 + i * e.size) st) (fun i st => ih _ _ st) (cellRow (w.cell? ⟨b, o, none⟩)).2.2 0 (st.1 ++ [((cellRow (w.cell? ⟨b, o, none⟩)).2.2 : Int)], st.2)
    exact ⟨((cellRow (w.cell? ⟨b, o, none⟩)).2.2 : Int) :: p, q, by rw [h]; simp⟩

def Few (m : Nat) (st : Seen) : Prop := st.1.length ≤ m ∧ ∀ s ∈ st.2, s.size ≤ m

theorem Few.front {m : Nat} {st : Seen} {x : List Int} {y : List ByteArray} (h : Few m (st.1 ++ x, st.2 ++ y)) : Few m st :=
  ⟨by have := h.1; simp at this; omega, fun s hs => h.2 s (by simp [hs])⟩

theorem rowLoop_few {m : Nat} (hm : m < 200000) {f : Nat → Seen → Seen} (hf : ∀ i st, ∃ a b, f i st = (st.1 ++ a, st.2 ++ b)) (hnum : ∀ i st, st.1.length + 1 ≤ (f i st).1.length) : ∀ n i st, Few m (rowLoop f n i st) → st.1.length + n ≤ m ∧ ∀ j, j < n → ∃ st', Few m (f (i + j) st') := by
  intro n
  induction n with
  | zero => intro i st h; exact ⟨by simpa [rowLoop] using h.1, fun j hj => by omega⟩
  | succ n ih =>
    intro i st h
    simp only [rowLoop] at h
    split at h
    · obtain ⟨h1, h2⟩ := ih (i + 1) (f i st) h
      have := hnum i st
      refine ⟨by omega, fun j hj => ?_⟩
      cases j with
      | zero =>
        obtain ⟨a, b, he⟩ := rowLoop_ext hf n (i + 1) (f i st)
        rw [he] at h
        exact ⟨st, h.front⟩
      | succ j =>
        obtain ⟨st', hst'⟩ := h2 j (by omega)
        exact ⟨st', by rw [show i + (j + 1) = i + 1 + j by omega]; exact hst'⟩
    · have := h.1; omega

theorem small_of_few {m : Nat} (hm : m < 3000) {Z : Nat → Prop} {w : World} : ∀ (d : D), d.rows = true → ∀ {b o : Nat}, Rd Z w d b o → ∀ st, Few m (seen w d b o st) → SmV m w d (fun i => w.cell? ⟨b, i, none⟩) o := by
  intro d
  induction d with
  | int k => intro _ b o _ st _; simp only [SmV]
  | bool => intro _ b o _ st _; simp only [SmV]
  | nil => intro _ b o _ st _; simp only [SmV]
  | strs l => intro h; cases h
  | stop l => intro _ b o _ st hf; have h1 := hf.1; simp only [seen, List.length_append, manyZ_len] at h1; omega
  | str =>
    intro _ b o h st hf
    simp only [SmV]
    intro z hz
    refine hf.2 z ?_
    simp [seen, hz, cellStr]
  | seq x y ihx ihy =>
    intro hr b o h st hf
    simp only [D.rows, Bool.and_eq_true] at hr
    simp only [seen] at hf
    simp only [SmV]
    obtain ⟨p, q, he⟩ := seen_ext w y b (o + x.size) (seen w x b o st)
    refine ⟨ihx hr.1 h.1 st ?_, ihy hr.2 h.2 _ hf⟩
    rw [he] at hf
    exact hf.front
  | row t e ih =>
    intro hr b o h st hf
    simp only [D.rows, Bool.and_eq_true] at hr
    simp only [SmV]
    intro ao l c hc
    obtain ⟨_, _, ao', l', c', h1, h2, h3, h4⟩ := h
    rw [hc] at h1
    cases h1
    simp only [seen, hc] at hf
    obtain ⟨k1, k2⟩ := rowLoop_few (by omega : m < 200000) (f := fun i st => seen w e (cellRow (some (.slice ao l c))).1 ((cellRow (some (.slice ao l c))).2.1 + i * e.size) st) (fun i st => seen_ext w e _ _ st) (fun i st => (seen_co w e hr.2 _ _ st).2.1 hr.1) _ _ _ hf
    have hl : (cellRow (some (.slice ao l c))).2.2 = l := by cases ao <;> rfl
    rw [hl] at k1 k2
    refine ⟨by simp at k1; omega, fun b' o' hao i hi => ?_⟩
    subst hao
    rcases h4 with h4 | ⟨b2, o2, h5, h4⟩
    · omega
    · cases h5
      obtain ⟨st', hst'⟩ := k2 i hi
      rw [Nat.zero_add] at hst'
      exact ih hr.2 (h4 i hi) st' hst'

theorem newEye {T3 T9 : Nat} {w : World} {b base E : Nat} {mk : Bool} {at_ : Int} (h : w.heap[b]? = some (.cells #[.slice none 0 0, .slice none 0 0, .bool mk, .int .i64 at_] E (0, 0))) (hb : b < base) (hbase : base ≤ w.heap.size) :
    EyeAt T3 T9 w b 0 base mk at_ (.slice none 0 0) (.slice none 0 0) [] [] := by
  have hf : ∀ o, w.frozen? ⟨b, o, none⟩ = false := fun o => by rw [frozen?_blk h]; simp
  exact ⟨by rw [cell?_blk h]; rfl, by rw [cell?_blk h]; rfl, by rw [cell?_blk h]; rfl, by rw [cell?_blk h]; rfl, hf _, hf _, hf _, hf _, World.ownsRow_nil _ _ _ _, World.ownsRow_nil _ _ _ _, fun b h => by simp [Value.ownBlock] at h, hb, hbase⟩

theorem EyeAt.eye1 {T3 T9 lo : Nat} {w : World} {be base : Nat} {at_ : Int} {vn vs : Value} {st : Seen} (h : EyeAt T3 T9 w be 0 base false at_ vn vs st.1 st.2) (h1 : lo ≤ be) (h2 : lo ≤ base) : Eye1 T3 T9 lo w be 0 st :=
  ⟨vn, vs, base, at_, h.c0, h.c1, h.c2, h.c3, h.on, h.os, fun b hb => by have := (h.on.lt b hb).1; have := h.lt; omega, fun b hb => by have := (h.os.lt b hb).1; have := h.lt; omega, h2, h1⟩

theorem Keeps.heap {w w' : World} {be base : Nat} (h : Keeps w w' be 0 base) : ∀ b, b < base → b ≠ be → w'.heap[b]? = w.heap[b]? := h.old

theorem grown_look {w w1 w2 : World} {be base : Nat} (hg : w.grownBy w1 none) (h : Keeps w1 w2 be 0 base) (hb : w.heap.size ≤ be) (hbase : w.heap.size ≤ base) : w.grownBy w2 none :=
  ⟨h.os.trans hg.os, h.tape.trans hg.tape, h.output.trans hg.output, Nat.le_trans hg.size h.size, fun k hk hn => (h.old k (by omega) (by omega)).trans (hg.block k hk hn)⟩

theorem Eye1.at {T3 T9 lo : Nat} {w w' : World} {be oe : Nat} {st : Seen} (h : Eye1 T3 T9 lo w be oe st) (hs : ∀ b, lo ≤ b → b < w.heap.size → w'.heap[b]? = w.heap[b]?) : Eye1 T3 T9 lo w' be oe st := by
  obtain ⟨vn, vs, base, at_, q0, q1, q2, q3, q4, q5, q6, q7, q8, q9⟩ := h.h
  have hc : ∀ o, w'.cell? ⟨be, o, none⟩ = w.cell? ⟨be, o, none⟩ := fun o => World.cell?_of_block (a := ⟨be, o, none⟩) (hs be q9 (World.block_lt_of_cell? w _ q0))
  exact ⟨vn, vs, base, at_, by rw [hc]; exact q0, by rw [hc]; exact q1, by rw [hc]; exact q2, by rw [hc]; exact q3,
    ownsRow_old (base' := base) q4 fun b hb => hs b (by have := (q4.lt b hb).1; omega) (q4.lt b hb).2, ownsRow_old (base' := base) q5 fun b hb => hs b (by have := (q5.lt b hb).1; omega) (q5.lt b hb).2, q6, q7, q8, q9⟩

theorem EyeRow.at {T3 T9 lo : Nat} {w w' : World} {v : Value} {sts : List Seen} (h : EyeRow T3 T9 lo w v sts) (hs : ∀ b, lo ≤ b → b < w.heap.size → w'.heap[b]? = w.heap[b]?) : EyeRow T3 T9 lo w' v sts := by
  obtain ⟨ob, h1, h2⟩ := h
  exact ⟨ob, h1, fun i st hi => (h2 i st hi).at hs⟩

theorem store_new {P : Program} (w : World) (E : Nat) (zs cs : Array Value) (h : zs.size = cs.size) (hone : ∀ v ∈ cs.toList, v.oneCell' = true) : (storeCells ⟨w.heap.size, 0, none⟩ cs.toList).run P (w.alloc (.cells zs E)) = .ok () (w.alloc (.cells cs E)) := by
  have hb : (w.alloc (.cells zs E)).heap[w.heap.size]? = some (.cells zs E (0, 0)) := by rw [alloc_get, if_pos rfl]
  have := run_storeCells_blk P cs.toList w.heap.size 0 0 _ zs E (0, 0) hb (by simp; omega) (fun j _ h => by omega) hone
  rw [this]
  congr 1
  have hs : spl zs (0 + 0) cs.toList = cs := by
    apply Array.ext_getElem?
    intro i
    rw [spl_get _ _ _ _ (by simp; omega)]
    simp only [Array.length_toList, Nat.zero_add, Nat.zero_le, true_and, Nat.sub_zero, Array.getElem?_toList]
    split
    · rfl
    · rename_i hge
      rw [Array.getElem?_eq_none (by omega), Array.getElem?_eq_none (by omega)]
  rw [hs]
  simp only [setBlk, World.alloc]
  congr 1
  apply Array.ext_getElem?
  intro i
  simp only [Array.getElem?_setIfInBounds, Array.getElem?_push]
  by_cases e : w.heap.size = i
  · subst e; simp
  · rw [if_neg e]
    by_cases e2 : i = w.heap.size
    · exact absurd e2.symm e
    · simp [e2]

theorem PartOK.one {P : Program} {m : Nat} {w0 w : World} {χ : Chi} {d : D} {f : Nat → Option Value} {cs : Array Value} (h : PartOK P m w0 χ w d f (fun i => cs[i]?) 0) (hs : cs.size = d.size) : ∀ v ∈ cs.toList, v.oneCell' = true := by
  intro v hv
  obtain ⟨j, hj⟩ := List.mem_iff_getElem?.1 hv
  rw [Array.getElem?_toList] at hj
  have hjl := (Array.getElem?_eq_some_iff.1 hj).1
  obtain ⟨v', ct, k1, _, k2⟩ := h.ty j (by omega)
  simp only [Nat.zero_add] at k1
  rw [hj] at k1
  cases k1
  simpa using k2.one

theorem PartOK.typed {P : Program} {m : Nat} {w0 w : World} {χ : Chi} {d : D} {f : Nat → Option Value} {cs : Array Value} (h : PartOK P m w0 χ w d f (fun i => cs[i]?) 0) (hs : cs.size = d.size) : TypedBy P χ χ.A cs (kkOf (d.cts.map (CT.bd m))) := by
  intro i
  simp only [kkOf, List.getElem?_map]
  rcases Nat.lt_or_ge i d.size with hlt | hge
  · obtain ⟨v, ct, h1, h2, h3⟩ := h.ty i hlt
    simp only [Nat.zero_add] at h1
    rw [h1, h2]
    exact h3
  · rw [Array.getElem?_eq_none (by omega), List.getElem?_eq_none (by rw [D.cts_len]; exact hge)]
    trivial

structure YSt (P : Program) (χ : Chi) (w : World) (d : D) (b : Nat) (st : Seen) : Prop where
  inv : InvF P χ w
  at_ : At χ d b 0
  seen : seen w d b 0 ([], []) = st

theorem YSt.same {P : Program} {χ : Chi} {w w' : World} {d : D} {b : Nat} {st : Seen} (h : YSt P χ w d b st) (hok : d.ok P) (hs : ∀ b, χ.A b → w'.heap[b]? = w.heap[b]?) : YSt P χ w' d b st :=
  ⟨h.inv.same hs, h.at_, by rw [seen_same hs d (At.rd h.inv d hok h.at_)]; exact h.seen⟩

theorem YSt.mk' {P : Program} {χ : Chi} {w0 w : World} {d : D} {f : Nat → Option Value} {cs : Array Value} {T m : Nat} (hm : m ≤ LB) (hok : d.ok P) (hg : Grows P Chi.none w0 χ w) (hp : PartOK P m w0 χ w d f (fun i => cs[i]?) 0) (hcs : cs.size = d.size) :
    YSt P (χ.addF w.heap.size (kkOf d.cts)) (w.alloc (.cells cs T)) d w.heap.size (seenV w0 d f 0 ([], [])) ∧ InvF P χ (w.alloc (.cells cs T)) ∧ (¬ χ.A w.heap.size) ∧ (w.alloc (.cells cs T)).heap[w.heap.size]? = some (.cells cs T (0, 0)) ∧
      TypedBy P χ χ.A cs (kkOf (d.cts.map (CT.bd m))) ∧ ∀ b, χ.A b → w0.heap.size ≤ b ∧ b < w.heap.size := by
  have hlt : ∀ b, χ.A b → b < w.heap.size := fun b hb => hg.inv.1.lt hb
  have hs : ∀ b, χ.A b → (w.alloc (.cells cs T)).heap[b]? = w.heap[b]? := fun b hb => by rw [alloc_get, if_neg (by have := hlt b hb; omega)]
  have hinv := hg.inv.same hs
  have hn : ¬ χ.A w.heap.size := fun h => by have := hlt _ h; omega
  have hb : (w.alloc (.cells cs T)).heap[w.heap.size]? = some (.cells cs T (0, 0)) := by rw [alloc_get, if_pos rfl]
  have hty := hp.typed hcs
  have hinv2 := addF_only hinv hn hb (TypedBy.of_bd hm hty)
  refine ⟨⟨hinv2, ⟨.inr rfl, fun i hi => by simp [Chi.addF, kkOf]⟩, ?_⟩, hinv, hn, hb, hty, fun b hb => ⟨by rcases hg.new b hb with h | h; exact h.elim; exact h, hlt b hb⟩⟩
  rw [seen_V, seenV_congr _ d (g := fun i => cs[i]?) (p := 0) _ fun i _ => by rw [cell?_blk hb]]
  rw [seenV_same hs d (PartOK.rdv hg.inv hm d hok hp.ty)]
  exact hp.eq _

structure LSt (P : Program) (T3 T9 : Nat) (X : Nat → Chi) (w : World) (v : Value) (cl : List Clos) : Prop where
  row : ClosRow w v cl
  len : cl.length ≤ 2
  inv : ∀ i, InvF P (X i) w
  cl : ∀ (i : Nat) c, cl[i]? = some c → At (X i) c.d c.b c.o ∧ ClosS P T3 T9 c
  sep : ∀ i j, i ≠ j → ∀ b, (X i).A b → ¬ (X j).A b

def UA (X : Nat → Chi) (b : Nat) : Prop := ∃ i, (X i).A b

theorem LSt.lt {P : Program} {T3 T9 : Nat} {X : Nat → Chi} {w : World} {v : Value} {cl : List Clos} (h : LSt P T3 T9 X w v cl) {b : Nat} (hb : UA X b) : b < w.heap.size := by
  obtain ⟨i, hi⟩ := hb
  exact (h.inv i).1.lt hi

theorem LSt.clos {P : Program} {T3 T9 : Nat} {X : Nat → Chi} {w : World} {v : Value} {cl : List Clos} (h : LSt P T3 T9 X w v cl) : ∀ c ∈ cl, ClosOK P T3 T9 w c := fun c hc => by
  obtain ⟨i, hi⟩ := List.getElem?_of_mem hc
  obtain ⟨h1, h2⟩ := h.cl i c hi
  exact ⟨h2.see, h2.room, h2.call, (X i).A, At.rd (h.inv i) c.d h2.ok h1, fun b hb => (h.inv i).1.lt hb⟩

theorem LSt.seen_but {P : Program} {T3 T9 : Nat} {X : Nat → Chi} {w w' : World} {v : Value} {cl : List Clos} (h : LSt P T3 T9 X w v cl) (but : Int) (hs : ∀ i : Nat, (i : Int) ≠ but → ∀ b, (X i).A b → w'.heap[b]? = w.heap[b]?) :
    ∀ i : Nat, (i : Int) ≠ but → (cl.map (Clos.seen w'))[i]? = (cl.map (Clos.seen w))[i]? := fun i hi => by
  simp only [List.getElem?_map]
  cases hc : cl[i]? with
  | none => rfl
  | some c =>
    obtain ⟨h1, h2⟩ := h.cl i c hc
    simp only [Option.map_some]
    congr 1
    exact seen_same (hs i hi) c.d (At.rd (h.inv i) c.d h2.ok h1) _

theorem LSt.seen {P : Program} {T3 T9 : Nat} {X : Nat → Chi} {w w' : World} {v : Value} {cl : List Clos} (h : LSt P T3 T9 X w v cl) (hs : ∀ b, UA X b → w'.heap[b]? = w.heap[b]?) : cl.map (Clos.seen w') = cl.map (Clos.seen w) :=
  List.ext_getElem? fun i => h.seen_but (-1) (fun i _ b hb => hs b ⟨i, hb⟩) i (by omega)

theorem Rd.mono {Z Z' : Nat → Prop} (h : ∀ b, Z b → Z' b) {w : World} : ∀ (d : D) {b o : Nat}, Rd Z w d b o → Rd Z' w d b o := by
  intro d
  induction d with
  | int k => intro b o hr; exact ⟨h _ hr.1, hr.2⟩
  | bool => intro b o hr; exact ⟨h _ hr.1, hr.2⟩
  | str => intro b o hr; exact ⟨h _ hr.1, hr.2⟩
  | nil => intro b o hr; trivial
  | stop l => intro b o hr; trivial
  | strs t =>
    intro b o hr
    obtain ⟨h1, h2, ao, l, c, h3, h4, h5, h7, h6⟩ := hr
    refine ⟨h _ h1, h2, ao, l, c, h3, h4, h5, h7, ?_⟩
    rcases h6 with h6 | ⟨b', o', rfl, h6⟩
    · exact .inl h6
    · exact .inr ⟨b', o', rfl, fun i hi => ⟨h _ (h6 i hi).1, (h6 i hi).2⟩⟩
  | seq x y ihx ihy => intro b o hr; exact ⟨ihx hr.1, ihy hr.2⟩
  | row t e ih =>
    intro b o hr
    obtain ⟨h1, h2, ao, l, c, h3, h4, h5, h6⟩ := hr
    refine ⟨h _ h1, h2, ao, l, c, h3, h4, h5, ?_⟩
    rcases h6 with h6 | ⟨b', o', rfl, h6⟩
    · exact .inl h6
    · exact .inr ⟨b', o', rfl, fun i hi => ih (h6 i hi)⟩

theorem RdV.mono {Z Z' : Nat → Prop} (h : ∀ b, Z b → Z' b) {w : World} : ∀ (d : D) {f : Nat → Option Value} {o : Nat}, RdV Z w d f o → RdV Z' w d f o := by
  intro d
  induction d with
  | seq x y ihx ihy => intro f o hr; exact ⟨ihx hr.1, ihy hr.2⟩
  | row t e _ =>
    intro f o hr
    obtain ⟨ao, l, c, h3, h4, h5, h6⟩ := hr
    refine ⟨ao, l, c, h3, h4, h5, ?_⟩
    rcases h6 with h6 | ⟨b', o', rfl, h6⟩
    · exact .inl h6
    · exact .inr ⟨b', o', rfl, fun i hi => (h6 i hi).mono h e⟩
  | strs t =>
    intro f o hr
    obtain ⟨ao, l, c, h3, h4, h5, h7, h6⟩ := hr
    refine ⟨ao, l, c, h3, h4, h5, h7, ?_⟩
    rcases h6 with h6 | ⟨b', o', rfl, h6⟩
    · exact .inl h6
    · exact .inr ⟨b', o', rfl, fun i hi => (h6 i hi).mono h .str⟩
  | _ => intro f o hr; exact hr

theorem RdV.boxed {Z : Nat → Prop} {w W : World} {d : D} {cs : Array Value} {b E : Nat} (hr : RdV Z w d (fun i => cs[i]?) 0) (hs : ∀ b, Z b → W.heap[b]? = w.heap[b]?) (hb : W.heap[b]? = some (.cells cs E (0, 0))) : Rd (fun k => Z k ∨ k = b) W d b 0 := by
  refine ((hr.same hs).mono (fun k h => .inl h) d).rd (.inr rfl) d fun i hi => ⟨?_, ?_⟩
  · rw [cell?_blk hb]
  · rw [frozen?_blk hb]; simp

theorem strings_small {Z : Nat → Prop} {w : World} : ∀ (d : D) {b o : Nat}, Rd Z w d b o → ∀ st : Seen, (∀ s ∈ st.2, s.size ≤ maxLen) → ∀ s ∈ (seen w d b o st).2, s.size ≤ maxLen := by
  intro d
  induction d with
  | int k => intro b o h st hs; simpa [seen] using hs
  | bool => intro b o h st hs; simpa [seen] using hs
  | nil => intro b o h st hs; simpa [seen] using hs
  | stop l => intro b o h st hs; simpa only [seen] using hs
  | strs t =>
    intro b o h st hs
    obtain ⟨_, _, ao, l, c, h3, h4, h5, _, h6⟩ := h
    have key : ∀ n i st, i + n ≤ l → (∀ s ∈ st.2, s.size ≤ maxLen) → ∀ s ∈ (rowLoop (fun i st => (st.1, st.2 ++ [cellStr (w.cell? ⟨(cellRow (some (.slice ao l c))).1, (cellRow (some (.slice ao l c))).2.1 + i * 1, none⟩)])) n i st).2, s.size ≤ maxLen := by
      intro n
      induction n with
      | zero => intro i st _ hs; exact hs
      | succ n ihn =>
        intro i st hi hs
        simp only [rowLoop]
        split
        · refine ihn (i + 1) _ (by omega) ?_
          rcases h6 with h6 | ⟨b', o', rfl, h6⟩
          · omega
          · obtain ⟨_, _, z, hz, hl⟩ := h6 i (by omega)
            intro s hm
            simp only [cellRow, hz, cellStr, List.mem_append, List.mem_singleton] at hm
            rcases hm with hm | rfl
            · exact hs s hm
            · exact hl
        · exact hs
    simp only [seen, h3]
    have hl : (cellRow (some (.slice ao l c))).2.2 = l := by cases ao <;> rfl
    exact key _ 0 _ (by omega) hs
  | str =>
    intro b o h st hs s hm
    obtain ⟨z, hz, hl⟩ := h.str
    simp only [seen, hz, cellStr, List.mem_append, List.mem_singleton] at hm
    rcases hm with hm | rfl
    · exact hs s hm
    · exact hl
  | seq x y ihx ihy => intro b o h st hs; exact ihy h.2 _ (ihx h.1 st hs)
  | row t e ih =>
    intro b o h st hs
    obtain ⟨_, _, ao, l, c, h3, h4, h5, h6⟩ := h
    have key : ∀ n i st, i + n ≤ l → (∀ s ∈ st.2, s.size ≤ maxLen) → ∀ s ∈ (rowLoop (fun i st => seen w e (cellRow (some (.slice ao l c))).1 ((cellRow (some (.slice ao l c))).2.1 + i * e.size) st) n i st).2, s.size ≤ maxLen := by
      intro n
      induction n with
      | zero => intro i st _ hs; exact hs
      | succ n ihn =>
        intro i st hi hs
        simp only [rowLoop]
        split
        · refine ihn (i + 1) _ (by omega) ?_
          rcases h6 with h6 | ⟨b', o', rfl, h6⟩
          · omega
          · exact ih (h6 i (by omega)) st hs
        · exact hs
    simp only [seen, h3]
    have hl : (cellRow (some (.slice ao l c))).2.2 = l := by cases ao <;> rfl
    exact key _ 0 _ (by omega) hs

end Go.Sx

namespace Go.Sx
open Go

abbrev eyeO (E : Nat) (mk : Bool) (a : Int) : Obj := .cells #[.slice none 0 0, .slice none 0 0, .bool mk, .int .i64 a] E

theorem eyes3 (w : World) (E : Nat) : let w' := ((w.alloc (eyeO E false 0)).alloc (eyeO E false 0)).alloc (eyeO E false 0)
    w'.heap[w.heap.size]? = some (eyeO E false 0) ∧ w'.heap[w.heap.size + 1]? = some (eyeO E false 0) ∧ w'.heap[w.heap.size + 1 + 1]? = some (eyeO E false 0) ∧ w'.heap.size = w.heap.size + 3 ∧ w.grownBy w' none := by
  intro w'
  have s1 : (w.alloc (eyeO E false 0)).heap.size = w.heap.size + 1 := by show (w.heap.push _).size = _; simp
  have s2 : ((w.alloc (eyeO E false 0)).alloc (eyeO E false 0)).heap.size = w.heap.size + 2 := by show ((w.alloc _).heap.push _).size = _; simp [s1]
  have s3 : w'.heap.size = w.heap.size + 3 := by show (((w.alloc _).alloc _).heap.push _).size = _; simp [s2]
  refine ⟨?_, ?_, ?_, s3, grown_trans (grown_trans (grown_alloc _ _) (grown_alloc _ _)) (grown_alloc _ _)⟩
  · rw [alloc_get, if_neg (by omega), alloc_get, if_neg (by omega), alloc_get, if_pos rfl]
  · rw [alloc_get, if_neg (by omega), alloc_get, if_pos (by omega)]
  · rw [alloc_get, if_pos (by omega)]

theorem alloc_size (w : World) (o : Obj) : (w.alloc o).heap.size = w.heap.size + 1 := by show (w.heap.push _).size = _; simp

theorem YSt.look {P : Program} {T3 T9 f : Nat} {d : D} {χ : Chi} {w : World} {b : Nat} {st : Seen} (h : YSt P χ w d b st) (hok : d.ok P) (hsee : SeeOK P T3 T9 f d) (hroom : Room d [] []) {be base E : Nat} (hbe : w.heap[be]? = some (eyeO E false 0)) (h1 : be < base) (h2 : base ≤ w.heap.size) (hf : ∀ k, χ.A k → k < base ∧ k ≠ be) :
    Calls P f #[.pointer (some ⟨be, 0, none⟩), .pointer (some ⟨b, 0, none⟩)] w fun e w' => e = .returned (.tuple #[]) ∧ Keeps w w' be 0 base ∧ Eye1 T3 T9 be w' be 0 st ∧ ∃ vn vs at_, EyeAt T3 T9 w' be 0 base false at_ vn vs st.1 st.2 := by
  refine (hsee w χ.A be 0 base b 0 0 _ _ [] [] (At.rd h.inv d hok h.at_) hf (newEye hbe h1 h2) hroom).mono ?_
  rintro e w' ⟨rfl, hk, vn, vs, he⟩
  rw [h.seen] at he
  exact ⟨rfl, hk, he.eye1 (Nat.le_refl _) (by omega), vn, vs, 0, he⟩

structure Marked (A : Nat → Prop) (w w' : World) : Prop where
  os : w'.os = w.os
  tape : w'.tape = w.tape
  output : w'.output = w.output
  size : w.heap.size ≤ w'.heap.size
  old : ∀ b, b < w.heap.size → ¬ A b → w'.heap[b]? = w.heap[b]?

theorem Marked.refl (A : Nat → Prop) (w : World) : Marked A w w := ⟨rfl, rfl, rfl, Nat.le_refl _, fun _ _ _ => rfl⟩
theorem Marked.of_grown {A : Nat → Prop} {w w' : World} (h : w.grownBy w' none) : Marked A w w' := ⟨h.os, h.tape, h.output, h.size, fun b hb _ => h.block b hb (by simp)⟩
theorem Marked.trans {A : Nat → Prop} {w w' w'' : World} (h : Marked A w w') (k : Marked A w' w'') : Marked A w w'' :=
  ⟨k.os.trans h.os, k.tape.trans h.tape, k.output.trans h.output, Nat.le_trans h.size k.size, fun b hb ha => (k.old b (Nat.lt_of_lt_of_le hb h.size) ha).trans (h.old b hb ha)⟩
theorem Marked.grown {A : Nat → Prop} {w0 w w' : World} (h0 : w0.grownBy w none) (h : Marked A w w') (hA : ∀ b, A b → w0.heap.size ≤ b) : w0.grownBy w' none :=
  ⟨h.os.trans h0.os, h.tape.trans h0.tape, h.output.trans h0.output, Nat.le_trans h0.size h.size, fun k hk hn => (h.old k (Nat.lt_of_lt_of_le hk h0.size) fun ha => by have := hA k ha; omega).trans (h0.block k hk hn)⟩

theorem YSt.marks {P : Program} {T3 T9 f : Nat} {d : D} {χ : Chi} {w : World} {b : Nat} {st : Seen} (h : YSt P χ w d b st) (hok : d.ok P) (hmark : MarkOK P T3 T9 f d) (hroom : Room d [] []) {E : Nat} :
    Calls P f #[.pointer (some ⟨w.heap.size, 0, none⟩), .pointer (some ⟨b, 0, none⟩)] (w.alloc (eyeO E true 0)) fun e w' => e = .returned (.tuple #[]) ∧ Marked χ.A w w' ∧ ∃ st', YSt P χ w' d b st' := by
  have hb : (w.alloc (eyeO E true 0)).heap[w.heap.size]? = some (eyeO E true 0) := by rw [alloc_get, if_pos rfl]
  have hs := alloc_size w (eyeO E true 0)
  have hlt : ∀ k, χ.A k → k < w.heap.size := fun k hk => h.inv.1.lt hk
  have hsame : ∀ k, χ.A k → (w.alloc (eyeO E true 0)).heap[k]? = w.heap[k]? := fun k hk => by rw [alloc_get, if_neg (by have := hlt k hk; omega)]
  refine (hmark _ χ w.heap.size 0 (w.heap.size + 1) b 0 0 _ _ [] [] (h.inv.same hsame) h.at_ (fun k hk => by have := hlt k hk; omega) (newEye hb (by omega) (by omega)) hroom).mono ?_
  rintro e w' ⟨rfl, hk, hinv, _⟩
  refine ⟨rfl, ⟨hk.os, hk.tape, hk.output, by have := hk.size; omega, fun k hk1 hk2 => ?_⟩, _, hinv, h.at_, rfl⟩
  rw [hk.old k (by omega) (by omega) hk2, alloc_get, if_neg (by omega)]

theorem Marked.mono {A B : Nat → Prop} {w w' : World} (h : Marked A w w') (hA : ∀ b, A b → B b) : Marked B w w' := ⟨h.os, h.tape, h.output, h.size, fun b hb hn => h.old b hb fun ha => hn (hA b ha)⟩

theorem LSt.marks {P : Program} {T3 T9 : Nat} {X : Nat → Chi} {w : World} {v : Value} {cl : List Clos} (h : LSt P T3 T9 X w v cl) {j : Nat} {c : Clos} (hc : cl[j]? = some c) {E : Nat} (a : Int) :
    Calls P c.f #[.pointer (some ⟨w.heap.size, 0, none⟩), .pointer (some ⟨c.b, c.o, none⟩)] (w.alloc (eyeO E true a)) fun e w' => e = .returned (.tuple #[]) ∧ Marked (X j).A w w' ∧ ∀ i, InvF P (X i) w' := by
  obtain ⟨hat, hcs⟩ := h.cl j c hc
  have hb : (w.alloc (eyeO E true a)).heap[w.heap.size]? = some (eyeO E true a) := by rw [alloc_get, if_pos rfl]
  have hs := alloc_size w (eyeO E true a)
  have hlt : ∀ k, (X j).A k → k < w.heap.size := fun k hk => (h.inv j).1.lt hk
  have hsame : ∀ k, (X j).A k → (w.alloc (eyeO E true a)).heap[k]? = w.heap[k]? := fun k hk => by rw [alloc_get, if_neg (by have := hlt k hk; omega)]
  refine (hcs.mark _ (X j) w.heap.size 0 (w.heap.size + 1) c.b c.o a _ _ [] [] ((h.inv j).same hsame) hat (fun k hk => by have := hlt k hk; omega) (newEye hb (by omega) (by omega)) hcs.room).mono ?_
  rintro e w' ⟨rfl, hk, hinv, _⟩
  have hm : Marked (X j).A w w' := ⟨hk.os, hk.tape, hk.output, by have := hk.size; omega, fun k hk1 hk2 => by rw [hk.old k (by omega) (by omega) hk2, alloc_get, if_neg (by omega)]⟩
  refine ⟨rfl, hm, fun i => ?_⟩
  by_cases e : i = j
  · subst e; exact hinv
  · exact (h.inv i).same fun b hb => hm.old b ((h.inv i).1.lt hb) (h.sep i j e b hb)

theorem LSt.marked {P : Program} {T3 T9 : Nat} {X : Nat → Chi} {w w' : World} {v : Value} {cl : List Clos} {A : Nat → Prop} (h : LSt P T3 T9 X w v cl) (hm : Marked A w w') (hinv : ∀ i, InvF P (X i) w') (hlo : ∀ lb l c, v = .slice (some ⟨lb, 0, none⟩) l c → ¬ A lb) : LSt P T3 T9 X w' v cl := by
  refine ⟨?_, h.len, hinv, h.cl, h.sep⟩
  rcases h.row with h1 | ⟨lb, c, h1, h2, h3⟩
  · exact .inl h1
  · exact .inr ⟨lb, c, h1, Nat.lt_of_lt_of_le h2 hm.size, fun i cc hi => (World.cell?_of_block (a := ⟨lb, i, none⟩) (hm.old lb h2 (hlo lb _ _ h1))).trans (h3 i cc hi)⟩

theorem LSt.grown {P : Program} {T3 T9 : Nat} {X : Nat → Chi} {w w' : World} {v : Value} {cl : List Clos} (h : LSt P T3 T9 X w v cl) (hg : w.grownBy w' none) : LSt P T3 T9 X w' v cl :=
  h.marked (A := fun _ => False) (Marked.of_grown hg) (fun i => (h.inv i).same fun b hb => hg.block b ((h.inv i).1.lt hb) (by simp)) fun _ _ _ _ h => h

theorem YSt.grown {P : Program} {χ : Chi} {w w' : World} {d : D} {b : Nat} {st : Seen} (h : YSt P χ w d b st) (hok : d.ok P) (hg : w.grownBy w' none) : YSt P χ w' d b st :=
  h.same hok fun k hk => hg.block k (h.inv.1.lt hk) (by simp)

theorem Eye1.marked {T3 T9 lo : Nat} {w w' : World} {be oe : Nat} {st : Seen} {A : Nat → Prop} (h : Eye1 T3 T9 lo w be oe st) (hm : Marked A w w') (hA : ∀ b, A b → b < lo ∨ w.heap.size ≤ b) : Eye1 T3 T9 lo w' be oe st :=
  h.at fun b h1 h2 => hm.old b h2 fun ha => by have := hA b ha; omega

theorem EyeRow.marked {T3 T9 lo : Nat} {w w' : World} {v : Value} {sts : List Seen} {A : Nat → Prop} (h : EyeRow T3 T9 lo w v sts) (hm : Marked A w w') (hA : ∀ b, A b → b < lo ∨ w.heap.size ≤ b) : EyeRow T3 T9 lo w' v sts :=
  h.at fun b h1 h2 => hm.old b h2 fun ha => by have := hA b ha; omega

theorem EyeRow.grown {T3 T9 lo : Nat} {w w' : World} {v : Value} {sts : List Seen} (h : EyeRow T3 T9 lo w v sts) (hg : w.grownBy w' none) : EyeRow T3 T9 lo w' v sts :=
  h.at fun b _ h2 => hg.block b h2 (by simp)

theorem EyeAt.later {T3 T9 : Nat} {w w' : World} {be base : Nat} {at_ : Int} {vn vs : Value} {ns : List Int} {ss : List ByteArray} (h : EyeAt T3 T9 w be 0 base false at_ vn vs ns ss) (hb : w'.heap[be]? = w.heap[be]?) (hs : ∀ b, base ≤ b → b < w.heap.size → w'.heap[b]? = w.heap[b]?) (hsz : w.heap.size ≤ w'.heap.size) : EyeAt T3 T9 w' be 0 base false at_ vn vs ns ss := by
  have hc : ∀ o, w'.cell? ⟨be, o, none⟩ = w.cell? ⟨be, o, none⟩ := fun o => World.cell?_of_block (a := ⟨be, o, none⟩) hb
  have hf : ∀ o, w'.frozen? ⟨be, o, none⟩ = w.frozen? ⟨be, o, none⟩ := fun o => World.frozen?_of_block (a := ⟨be, o, none⟩) hb
  exact ⟨by rw [hc]; exact h.c0, by rw [hc]; exact h.c1, by rw [hc]; exact h.c2, by rw [hc]; exact h.c3, by rw [hf]; exact h.f0, by rw [hf]; exact h.f1, by rw [hf]; exact h.f2, by rw [hf]; exact h.f3,
    ownsRow_old (base' := base) h.on fun b hb => hs b (h.on.lt b hb).1 (h.on.lt b hb).2, ownsRow_old (base' := base) h.os fun b hb => hs b (h.os.lt b hb).1 (h.os.lt b hb).2, h.ne, h.lt, Nat.le_trans h.base hsz⟩

theorem ClosRow.form {w : World} {v : Value} {cl : List Clos} (h : ClosRow w v cl) : ∃ ao c, v = .slice ao cl.length c := by
  rcases h with ⟨rfl, rfl⟩ | ⟨lb, c, rfl, _⟩
  · exact ⟨none, 0, rfl⟩
  · exact ⟨_, _, rfl⟩

theorem ClosRow.lt {w : World} {v : Value} {cl : List Clos} (h : ClosRow w v cl) {lb l c : Nat} (hv : v = .slice (some ⟨lb, 0, none⟩) l c) : lb < w.heap.size := by
  rcases h with ⟨_, h⟩ | ⟨lb', c', h1, h2, _⟩
  · rw [hv] at h; cases h
  · rw [hv] at h1; cases h1; exact h2

theorem ClosRow.cell {w : World} {ao : Option Addr} {l c : Nat} {cl : List Clos} (h : ClosRow w (.slice ao l c) cl) {i : Nat} {x : Clos} (hi : cl[i]? = some x) : ∃ lb, ao = some ⟨lb, 0, none⟩ ∧ w.cell? ⟨lb, i, none⟩ = some (.func (.func x.f) #[] #[.pointer (some ⟨x.b, x.o, none⟩)]) := by
  rcases h with ⟨rfl, _⟩ | ⟨lb', c', h1, _, h3⟩
  · cases hi
  · cases h1
    exact ⟨lb', rfl, h3 i x hi⟩

end Go.Sx
