/- Part B of a proof: helper lemmas; no conditions. -/
import Derived.Test.YtnnaehcmchndmaaGreatDoorA

set_option linter.unusedSimpArgs false
set_option linter.unusedVariables false

namespace Go.Sx
open Go

theorem Addr.add_none (b o i : Nat) : (⟨b, o, none⟩ : Addr).add i = ⟨b, o + i, none⟩ := by unfold Addr.add; split <;> simp_all

theorem cell?_blk {w : World} {b : Nat} {cs : Array Value} {E : TypeId} {fz : Nat × Nat} (h : w.heap[b]? = some (.cells cs E fz)) (o : Nat) : w.cell? ⟨b, o, none⟩ = cs[o]? := by
  simp [World.cell?, h]

theorem frozen?_blk {w : World} {b : Nat} {cs : Array Value} {E : TypeId} {fz : Nat × Nat} (h : w.heap[b]? = some (.cells cs E fz)) (o : Nat) :
    w.frozen? ⟨b, o, none⟩ = (decide (fz.1 ≤ o) && decide (o < fz.2)) := by
  obtain ⟨lo, hi⟩ := fz
  simp [World.frozen?, h]

def setBlk (w : World) (b : Nat) (o : Obj) : World := { w with heap := w.heap.setIfInBounds b o }

theorem setBlk_get {w : World} {b : Nat} {o : Obj} (h : b < w.heap.size) (i : Nat) : (setBlk w b o).heap[i]? = if i = b then some o else w.heap[i]? := by
  simp only [setBlk, Array.getElem?_setIfInBounds]
  by_cases e : b = i
  · subst e; simp [h]
  · rw [if_neg e, if_neg (fun h => e h.symm)]

theorem setBlk_size (w : World) (b : Nat) (o : Obj) : (setBlk w b o).heap.size = w.heap.size := by simp [setBlk]

theorem lt_of_blk {w : World} {b : Nat} {o : Obj} (h : w.heap[b]? = some o) : b < w.heap.size := by
  rcases Nat.lt_or_ge b w.heap.size with h1 | h1
  · exact h1
  · simp [Array.getElem?_eq_none h1] at h

theorem setCell_blk {w : World} {b o : Nat} {cs : Array Value} {E : TypeId} {fz : Nat × Nat} (h : w.heap[b]? = some (.cells cs E fz)) (v : Value) :
    w.setCell ⟨b, o, none⟩ v = setBlk w b (.cells (cs.setIfInBounds o v) E fz) := by
  simp only [World.setCell, setBlk]
  congr 1
  apply Array.ext_getElem?
  intro i
  simp only [Array.getElem?_modify, Array.getElem?_setIfInBounds]
  by_cases e : b = i
  · subst e
    have hlt := lt_of_blk h
    have hg : w.heap[b] = .cells cs E fz := by simpa [hlt] using h
    simp [hlt, hg]
  · simp [e]

theorem setBlk_setBlk (w : World) (b : Nat) (o o' : Obj) : setBlk (setBlk w b o) b o' = setBlk w b o' := by
  simp [setBlk]

theorem setBlk_self {w : World} {b : Nat} {o : Obj} (h : w.heap[b]? = some o) : setBlk w b o = w := by
  simp only [setBlk]
  have : w.heap.setIfInBounds b o = w.heap := by
    apply Array.ext_getElem?
    intro i
    simp only [Array.getElem?_setIfInBounds]
    by_cases e : b = i
    · subst e
      have hlt := lt_of_blk h
      have hg : w.heap[b] = o := by simpa [hlt] using h
      simp [hlt, hg]
    · simp [e]
  rw [this]

def spl (cs : Array Value) (o : Nat) : List Value → Array Value
  | [] => cs
  | v :: r => spl (cs.setIfInBounds o v) (o + 1) r

theorem spl_size : ∀ (vs : List Value) (cs : Array Value) (o : Nat), (spl cs o vs).size = cs.size := by
  intro vs; induction vs with
  | nil => intro cs o; rfl
  | cons v r ih => intro cs o; simp [spl, ih]

theorem spl_get : ∀ (vs : List Value) (cs : Array Value) (o i : Nat), o + vs.length ≤ cs.size → (spl cs o vs)[i]? = if o ≤ i ∧ i < o + vs.length then vs[i - o]? else cs[i]? := by
  intro vs
  induction vs with
  | nil => intro cs o i _; simp only [spl, List.length_nil]; rw [if_neg (by omega)]
  | cons v r ih =>
    intro cs o i h
    simp only [List.length_cons] at h
    simp only [spl, List.length_cons]
    rw [ih _ _ _ (by simp; omega)]
    by_cases h1 : o + 1 ≤ i ∧ i < o + 1 + r.length
    · rw [if_pos h1, if_pos (by omega), show i - o = (i - (o + 1)) + 1 by omega, List.getElem?_cons_succ]
    · rw [if_neg h1, Array.getElem?_setIfInBounds]
      by_cases h2 : o = i
      · subst h2; rw [if_pos rfl, if_pos (by omega), if_pos (by omega)]; simp
      · rw [if_neg h2, if_neg (by omega)]

theorem run_storeCells_blk (P : Program) : ∀ (vs : List Value) (b o i : Nat) (w : World) (cs : Array Value) (E : TypeId) (fz : Nat × Nat), w.heap[b]? = some (.cells cs E fz) →
    o + i + vs.length ≤ cs.size → (∀ j, j < cs.size → ¬ (fz.1 ≤ j ∧ j < fz.2)) → (∀ v ∈ vs, v.oneCell' = true) →
    (storeCells ⟨b, o, none⟩ vs i).run P w = .ok () (setBlk w b (.cells (spl cs (o + i) vs) E fz)) := by
  intro vs
  induction vs with
  | nil => intro b o i w cs E fz h _ _ _; simp only [storeCells, spl]; rw [setBlk_self h]; rfl
  | cons v r ih =>
    intro b o i w cs E fz h hl hf h1
    simp only [List.length_cons] at hl
    have hst : (store ((⟨b, o, none⟩ : Addr).add i) v).run P w = .ok () (setBlk w b (.cells (cs.setIfInBounds (o + i) v) E fz)) := by
      rw [Addr.add_none, run_store P w _ v _ (h1 v (by simp)), cell?_blk h, frozen?_blk h]
      have hlt : o + i < cs.size := by omega
      have hfz : (decide (fz.1 ≤ o + i) && decide (o + i < fz.2)) = false := by
        have := hf (o + i) hlt
        cases h1 : (decide (fz.1 ≤ o + i) && decide (o + i < fz.2)) with
        | false => rfl
        | true => simp at h1; exact (this h1).elim
      simp only [hlt, getElem?_pos, hfz]
      rw [setCell_blk h]
      rfl
    simp only [storeCells, Sem.run_bind, hst, Result.andThen_ok]
    rw [ih b o (i + 1) _ (cs.setIfInBounds (o + i) v) E fz (by rw [setBlk_get (lt_of_blk h)]; simp) (by simp; omega) (by simpa using hf) (fun x hx => h1 x (by simp [hx]))]
    rw [setBlk_setBlk]
    rfl

theorem run_loadCells_blk (P : Program) {w : World} {b : Nat} {cs : Array Value} {E : TypeId} {fz : Nat × Nat} (h : w.heap[b]? = some (.cells cs E fz)) (o n : Nat) (hn : o + n ≤ cs.size) :
    (loadCells ⟨b, o, none⟩ n).run P w = .ok (cs.extract o (o + n)) w := by
  have key : ∀ (n i : Nat) (acc : Array Value), o + i + n ≤ cs.size → (loadCellsFrom ⟨b, o, none⟩ i n acc).run P w = .ok (acc ++ cs.extract (o + i) (o + i + n)) w := by
    intro n
    induction n with
    | zero =>
      intro i acc _
      have : cs.extract (o + i) (o + i + 0) = #[] := by simp; omega
      rw [this]; simp [loadCellsFrom]
    | succ n ih =>
      intro i acc hle
      have hlt : o + i < cs.size := by omega
      simp only [loadCellsFrom, Sem.run_bind, run_load, Addr.add_none, cell?_blk h, hlt, getElem?_pos, Result.andThen_ok]
      rw [ih (i + 1) _ (by omega)]
      congr 1
      apply Array.ext'
      simp only [Array.toList_append, Array.toList_push, Array.toList_extract, List.extract_eq_take_drop, List.append_assoc]
      congr 1
      rw [show o + (i + 1) + n - (o + (i + 1)) = n by omega, show o + i + (n + 1) - (o + i) = n + 1 by omega, show o + (i + 1) = o + i + 1 by omega]
      rw [List.drop_eq_getElem_cons (i := o + i) (by simpa using hlt)]
      simp
  have := key n 0 #[] (by simpa using hn)
  simpa [loadCells] using this

def Chi.withρ (χ : Chi) (ρ : Val) : Chi := { χ with ρ := ρ }

theorem Inv.withρ {P : Program} {χ : Chi} {w : World} (h : Inv P χ w) (ρ : Val) : Inv P (χ.withρ ρ) w := ⟨h.sub, h.blockA, h.blockF, h.unfr⟩

def Chi.alloc (χ : Chi) (n : Nat) (fr : Bool) (kk : Nat → Option CT) : Chi :=
  { ρ := χ.ρ, F := fun b => χ.F b ∨ (fr = true ∧ b = n), A := fun b => χ.A b ∨ b = n, κ := fun b i => if b = n then kk i else χ.κ b i }

theorem alloc_get (w : World) (o : Obj) (i : Nat) : (w.alloc o).heap[i]? = if i = w.heap.size then some o else w.heap[i]? := by
  show (w.heap.push o)[i]? = _
  rw [Array.getElem?_push]

theorem Ext.alloc {P : Program} {χ : Chi} {w : World} (h : Inv P χ w) (n : Nat) (fr : Bool) (kk : Nat → Option CT) : Ext n χ (χ.alloc w.heap.size fr kk) where
  ρ := fun _ _ => rfl
  F := fun _ hb => .inl hb
  A := fun _ hb => .inl hb
  κ := fun b hb i => by
    have := h.lt hb
    simp only [Chi.alloc]; rw [if_neg (by omega)]

def TypedBy (P : Program) (χ : Chi) (S : Nat → Prop) (cs : Array Value) (kk : Nat → Option CT) : Prop :=
  ∀ i, match cs[i]?, kk i with
    | some v, some ct => CellOK P χ S ct v
    | none, none => True
    | _, _ => False

theorem TypedBy.ext {P : Program} {n : Nat} {χ χ' : Chi} (h : Ext n χ χ') {S S' : Nat → Prop} (hS : ∀ b, S b → S' b) (hA : ∀ b, S b → χ.A b) {cs : Array Value} {kk : Nat → Option CT}
    (ht : TypedBy P χ S cs kk) : TypedBy P χ' S' cs kk := by
  intro i
  have := ht i
  split <;> simp_all
  exact this.ext h hS hA

theorem BlockOK.ext {P : Program} {n : Nat} {χ χ' : Chi} (h : Ext n χ χ') {S S' : Nat → Prop} (hS : ∀ b, S b → S' b) (hA : ∀ b, S b → χ.A b) {w w' : World} {b : Nat} (hb : χ.A b)
    (hw : w'.heap[b]? = w.heap[b]?) (hB : BlockOK P χ S w b) : BlockOK P χ' S' w' b := by
  obtain ⟨cs, E, fz, hc, ht⟩ := hB
  refine ⟨cs, E, fz, by rw [hw]; exact hc, ?_⟩
  have e : χ'.κ b = χ.κ b := funext fun i => h.κ b hb i
  rw [e]
  exact TypedBy.ext h hS hA ht

theorem Inv.alloc {P : Program} {χ : Chi} {w : World} (h : Inv P χ w) (fr : Bool) (kk : Nat → Option CT) (cs : Array Value) (E : TypeId) (fz : Nat × Nat)
    (ht : TypedBy P χ (χ.S fr) cs kk) (hf : fr = true → ∀ i, i < cs.size → ¬ (fz.1 ≤ i ∧ i < fz.2)) : Inv P (χ.alloc w.heap.size fr kk) (w.alloc (.cells cs E fz)) := by
  have hx := Ext.alloc h 0 fr kk
  have hne : ∀ {b}, χ.A b → b ≠ w.heap.size := fun hb => Nat.ne_of_lt (h.lt hb)
  have htA : TypedBy P (χ.alloc w.heap.size fr kk) (χ.alloc w.heap.size fr kk).A cs kk := ht.ext hx (fun b hb => hx.A b (h.S_A hb)) (fun b hb => h.S_A hb)
  refine ⟨?_, ?_, ?_, ?_⟩
  · intro b hb
    rcases hb with hb | hb
    · exact .inl (h.sub b hb)
    · exact .inr hb.2
  · intro b hb
    rcases hb with hb | hb
    · refine BlockOK.ext hx hx.A (fun _ hb => hb) hb ?_ (h.blockA b hb)
      rw [alloc_get, if_neg (hne hb)]
    · subst hb
      refine ⟨cs, E, fz, by rw [alloc_get, if_pos rfl], ?_⟩
      simp only [Chi.alloc, if_pos] at htA ⊢
      exact htA
  · intro b hb
    rcases hb with hb | hb
    · refine BlockOK.ext hx hx.F h.sub (h.sub b hb) ?_ (h.blockF b hb)
      rw [alloc_get, if_neg (hne (h.sub b hb))]
    · obtain ⟨rfl, rfl⟩ := hb
      have htF : TypedBy P (χ.alloc w.heap.size true kk) (χ.alloc w.heap.size true kk).F cs kk := ht.ext hx (fun b hb => hx.F b hb) h.sub
      refine ⟨cs, E, fz, by rw [alloc_get, if_pos rfl], ?_⟩
      simp only [Chi.alloc, if_pos] at htF ⊢
      exact htF
  · intro b hb
    rcases hb with hb | hb
    · intro cs' E' fz' hc
      rw [alloc_get, if_neg (hne (h.sub b hb))] at hc
      exact h.unfr b hb cs' E' fz' hc
    · obtain ⟨rfl, rfl⟩ := hb
      intro cs' E' fz' hc
      rw [alloc_get, if_pos rfl] at hc
      cases hc
      exact hf rfl

theorem MemExt.alloc (χ : Chi) (w : World) (fr : Bool) (kk : Nat → Option CT) (o : Obj) : MemExt χ w (χ.alloc w.heap.size fr kk) (w.alloc o) where
  os := rfl
  tape := rfl
  output := rfl
  size := by simp
  old := fun b hb _ => by rw [alloc_get, if_neg (by omega)]
  Fn := fun b hb => by
    rcases hb with hb | hb
    · exact .inl hb
    · exact .inr (by rw [hb.2]; exact Nat.le_refl _)
  An := fun b hb => by
    rcases hb with hb | hb
    · exact .inl hb
    · exact .inr (by rw [hb]; exact Nat.le_refl _)

theorem MemExt.allocPlain (χ : Chi) (w : World) (o : Obj) : MemExt χ w χ (w.alloc o) where
  os := rfl
  tape := rfl
  output := rfl
  size := by simp
  old := fun b hb _ => by rw [alloc_get, if_neg (by omega)]
  Fn := fun b hb => .inl hb
  An := fun b hb => .inl hb

theorem Inv.allocPlain {P : Program} {χ : Chi} {w : World} (h : Inv P χ w) (o : Obj) : Inv P χ (w.alloc o) := by
  have hne : ∀ {b}, χ.A b → b ≠ w.heap.size := fun hb => Nat.ne_of_lt (h.lt hb)
  refine ⟨h.sub, fun b hb => ?_, fun b hb => ?_, fun b hb => ?_⟩
  · exact BlockOK.ext (Ext.refl 0 χ) (fun _ h => h) (fun _ h => h) hb (by rw [alloc_get, if_neg (hne hb)]) (h.blockA b hb)
  · exact BlockOK.ext (Ext.refl 0 χ) (fun _ h => h) h.sub (h.sub b hb) (by rw [alloc_get, if_neg (hne (h.sub b hb))]) (h.blockF b hb)
  · intro cs E fz hc
    rw [alloc_get, if_neg (hne (h.sub b hb))] at hc
    exact h.unfr b hb cs E fz hc

theorem Inv.setF {P : Program} {χ : Chi} {w : World} (h : Inv P χ w) {b : Nat} (hb : χ.F b) {cs cs' : Array Value} {E : TypeId} {fz : Nat × Nat} (hc : w.heap[b]? = some (.cells cs E fz))
    (hs : cs'.size = cs.size) (ht : TypedBy P χ χ.F cs' (χ.κ b)) : Inv P χ (setBlk w b (.cells cs' E fz)) := by
  have hlt := lt_of_blk hc
  have hx := Ext.refl 0 χ
  refine ⟨h.sub, fun i hi => ?_, fun i hi => ?_, fun i hi => ?_⟩
  · by_cases e : i = b
    · subst e
      exact ⟨cs', E, fz, by rw [setBlk_get hlt, if_pos rfl], ht.ext hx h.sub h.sub⟩
    · exact BlockOK.ext hx (fun _ h => h) (fun _ h => h) hi (by rw [setBlk_get hlt, if_neg e]) (h.blockA i hi)
  · by_cases e : i = b
    · subst e
      exact ⟨cs', E, fz, by rw [setBlk_get hlt, if_pos rfl], ht⟩
    · exact BlockOK.ext hx (fun _ h => h) h.sub (h.sub i hi) (by rw [setBlk_get hlt, if_neg e]) (h.blockF i hi)
  · intro cs2 E2 fz2 hc2
    rw [setBlk_get hlt] at hc2
    by_cases e : i = b
    · subst e
      rw [if_pos rfl] at hc2
      cases hc2
      rw [hs]
      exact h.unfr i hi cs E fz hc
    · rw [if_neg e] at hc2
      exact h.unfr i hi cs2 E2 fz2 hc2

theorem MemExt.setF {χ : Chi} {w : World} {b : Nat} (hb : χ.F b) (hlt : b < w.heap.size) (o : Obj) : MemExt χ w χ (setBlk w b o) where
  os := rfl
  tape := rfl
  output := rfl
  size := by rw [setBlk_size]; exact Nat.le_refl _
  old := fun i hi hF => by
    rw [setBlk_get hlt, if_neg (fun e => hF (by rw [e]; exact hb))]
  Fn := fun _ h => .inl h
  An := fun _ h => .inl h

theorem Inv.drew {P : Program} {χ : Chi} {w : World} (h : Inv P χ w) : Inv P χ w.drew := ⟨h.sub, h.blockA, h.blockF, h.unfr⟩
theorem MemExt.drew (χ : Chi) (w : World) : MemExt χ w χ w.drew := ⟨rfl, rfl, rfl, Nat.le_refl _, fun _ _ _ => rfl, fun _ h => .inl h, fun _ h => .inl h⟩

def rext (ρ : Val) (n : Nat) (zs : List Int) : Val := fun i => if i < n then ρ i else match zs[i - n]? with | some z => z | none => ρ i

theorem rext_lt {ρ : Val} {n : Nat} {zs : List Int} {i : Nat} (h : i < n) : rext ρ n zs i = ρ i := by simp [rext, h]

theorem rext_get {ρ : Val} {n : Nat} {zs : List Int} {j : Nat} {z : Int} (h : zs[j]? = some z) : rext ρ n zs (n + j) = z := by
  simp only [rext]; rw [if_neg (by omega), show n + j - n = j by omega, h]

theorem Ext.rext (χ : Chi) (n : Nat) (zs : List Int) : Ext n χ (χ.withρ (rext χ.ρ n zs)) :=
  ⟨fun _ hi => rext_lt hi, fun _ h => h, fun _ h => h, fun _ _ _ => rfl⟩

theorem MemExt.withρ {χ χ' : Chi} {w w' : World} (h : MemExt χ w χ' w') (ρ : Val) : MemExt χ w (χ'.withρ ρ) w' :=
  ⟨h.os, h.tape, h.output, h.size, h.old, h.Fn, h.An⟩

theorem Inv.read {P : Program} {χ : Chi} {w : World} (h : Inv P χ w) {fr : Bool} {b : Nat} (hb : χ.S fr b) : ∃ cs E fz, w.heap[b]? = some (.cells cs E fz) ∧
    ∀ i ct, χ.κ b i = some ct → ∃ v, cs[i]? = some v ∧ CellOK P χ (χ.S fr) ct v := by
  obtain ⟨cs, E, fz, hc, ht⟩ := h.blockS hb
  refine ⟨cs, E, fz, hc, fun i ct hk => ?_⟩
  have := ht i
  rw [hk] at this
  split at this
  · rename_i v ct' e1 e2; cases e2; exact ⟨v, e1, this⟩
  · rename_i e2; cases e2
  · exact this.elim

end Go.Sx

namespace Go.Sx
open Go

section
variable {P : Program} {w : World}
theorem run_info {t : TypeId} {i : TypeInfo} (h : P.info? t = some i) : (typeInfo t).run P w = .ok i w := by
  simp [typeInfo, h]
theorem run_und {t : TypeId} {d : TypeDesc} (h : P.underlying t = some d) : (underlying t).run P w = .ok d w := by
  simp [underlying, h]
theorem run_size {t : TypeId} {i : TypeInfo} (h : P.info? t = some i) : (sizeOf t).run P w = .ok i.size w := by
  simp [sizeOf, run_info h]
theorem run_zero {t : TypeId} {i : TypeInfo} {z : Value} (h : P.info? t = some i) (hz : i.zero = some z) : (zeroValue t).run P w = .ok z w := by
  simp [zeroValue, run_info h, hz]
end

def isAggD : TypeDesc → Bool
  | .struct _ | .array _ _ => true
  | _ => false

theorem run_isAgg' {P : Program} {w : World} {t : TypeId} {d : TypeDesc} (h : P.underlying t = some d) : (isAgg t).run P w = .ok (isAggD d) w := by
  unfold isAgg
  rw [Sem.run_bind, run_und h]
  cases d <;> rfl

def aggOf (P : Program) (t : TypeId) : Option Bool := (P.underlying t).map isAggD

theorem run_aggOf {P : Program} {w : World} {t : TypeId} {b : Bool} (h : aggOf P t = some b) : (isAgg t).run P w = .ok b w := by
  unfold aggOf at h
  cases hu : P.underlying t with
  | none => simp [hu] at h
  | some d => simp [hu] at h; rw [run_isAgg' hu, h]

def sizeAt (P : Program) (t : TypeId) : Option Nat := (P.info? t).map (·.size)

theorem run_sizeAt {P : Program} {w : World} {t : TypeId} {n : Nat} (h : sizeAt P t = some n) : (sizeOf t).run P w = .ok n w := by
  unfold sizeAt at h
  cases hu : P.info? t with
  | none => simp [hu] at h
  | some d => simp [hu] at h; rw [run_size hu, h]

def zeroAt (P : Program) (t : TypeId) : Option Value := (P.info? t).bind (·.zero)

theorem run_zeroAt {P : Program} {w : World} {t : TypeId} {z : Value} (h : zeroAt P t = some z) : (zeroValue t).run P w = .ok z w := by
  unfold zeroAt at h
  cases hu : P.info? t with
  | none => simp [hu] at h
  | some d => simp [hu] at h; exact run_zero hu h

def VOK (X : Ctx) (s : AS) (o : Oper) (r : OR) : Prop :=
  ∀ χ a w, gS X s χ a w → (∀ x ∈ r.vcs, x.valid) → ∃ v w' χ', (execOp a.eval o).run X.P w = .ok (.value v) w' ∧ Step X s r χ w χ' w' v

theorem Step.quiet {X : Ctx} {s : AS} {r : OR} {χ : Chi} {a : Act} {w w' : World} {v : Value} (h : gS X s χ a w) (zs : List Int) (hw : w' = w ∨ w' = w.drew)
    (hv : gAV X.P (χ.withρ (rext χ.ρ s.nv zs)) r.av v) (hf : holdsAll (rext χ.ρ s.nv zs) r.fs) (hi : ivOK (rext χ.ρ s.nv zs) s.nv r.ivs) (hhp : r.hp = []) :
    Step X s r χ w (χ.withρ (rext χ.ρ s.nv zs)) w' v where
  ext := Ext.rext χ s.nv zs
  mem := by rcases hw with rfl | rfl
            · exact (MemExt.refl χ _).withρ _
            · exact (MemExt.drew χ _).withρ _
  inv := by rcases hw with rfl | rfl
            · exact h.inv.withρ _
            · exact h.inv.drew.withρ _
  val := hv
  fs := hf
  iv := hi
  hp := by rw [hhp]; intro e he; cases he
  dist := by rw [hhp]; exact .nil

theorem Step.pure {X : Ctx} {s : AS} {av : AV} {vcs : List VC} {χ : Chi} {a : Act} {w : World} {v : Value} (h : gS X s χ a w) (hv : gAV X.P χ av v) :
    Step X s { av := av, vcs := vcs } χ w χ w v where
  ext := Ext.refl _ _
  mem := MemExt.refl _ _
  inv := h.inv
  val := hv
  fs := trivial
  iv := trivial
  hp := fun e he => by cases he
  dist := .nil

theorem Step.new1 {X : Ctx} {s : AS} {av : AV} {iv : IV} {fs : List Fm} {vcs : List VC} {χ : Chi} {a : Act} {w w' : World} {v : Value} (h : gS X s χ a w) (z : Int) (hw : w' = w ∨ w' = w.drew)
    (hv : ∀ ρ' : Val, (∀ i, i < s.nv → ρ' i = χ.ρ i) → ρ' s.nv = z → gAV X.P (χ.withρ ρ') av v) (hi : ∀ lo hi, iv = some (lo, hi) → lo ≤ z ∧ z ≤ hi)
    (hf : ∀ ρ' : Val, (∀ i, i < s.nv → ρ' i = χ.ρ i) → ρ' s.nv = z → holdsAll ρ' fs) :
    Step X s { av := av, ivs := [iv], fs := fs, vcs := vcs } χ w (χ.withρ (rext χ.ρ s.nv [z])) w' v := by
  have hz : rext χ.ρ s.nv [z] s.nv = z := by have := rext_get (ρ := χ.ρ) (n := s.nv) (zs := [z]) (j := 0) (z := z) rfl; simpa using this
  refine Step.quiet h [z] hw (hv _ (fun i hi => rext_lt hi) hz) (hf _ (fun i hi => rext_lt hi) hz) ?_ rfl
  cases iv with
  | none => trivial
  | some p =>
    obtain ⟨lo, hi'⟩ := p
    simp only [ivOK, hz, and_true]
    exact hi lo hi' rfl

def absMove (s : AS) (x : Operand) : Option OR := some { av := s.opd x }

theorem absMove_ok {X : Ctx} {s : AS} {o : Oper} {x : Operand} {r : OR} (ho : o.op = .move x ∨ o.op = .assign x) (h : absMove s x = some r) : VOK X s o r := by
  intro χ a w hg _
  simp only [absMove, Option.some.injEq] at h; subst h
  refine ⟨a.eval x, w, χ, ?_, Step.pure hg (s.opd_ok hg x)⟩
  rcases ho with ho | ho <;> simp [execOp, ho]

def absNil (s : AS) (x : Operand) : Option OR :=
  match s.osv x with
  | .ptr b o => some { av := .pv (.one (.ptr b o)) }
  | .wptr fr cs => some { av := .pv (.one (.wptr fr cs)) }
  | .glob g o => some { av := .pv (.one (.glob g o)) }
  | .func f caps => some { av := .pv (.one (.func f caps)) }
  | _ => none

theorem absNil_ok {X : Ctx} {s : AS} {o : Oper} {x : Operand} {r : OR} (ho : o.op = .nilCheck x) (h : absNil s x = some r) : VOK X s o r := by
  intro χ a w hg _
  have hx := s.osv_ok hg x
  unfold absNil at h
  split at h
  · rename_i b off e
    rw [e] at hx; cases h
    refine ⟨a.eval x, w, χ, ?_, Step.pure hg hx⟩
    simp only [gSV] at hx
    simp [execOp, ho, hx]
  · rename_i fr cs e
    rw [e] at hx; cases h
    refine ⟨a.eval x, w, χ, ?_, Step.pure hg hx⟩
    obtain ⟨b, off, hv, _⟩ := hx
    simp [execOp, ho, hv]
  · rename_i g off e
    rw [e] at hx; cases h
    refine ⟨a.eval x, w, χ, ?_, Step.pure hg hx⟩
    simp only [gSV] at hx
    simp [execOp, ho, hx]
  · rename_i f caps e
    rw [e] at hx; cases h
    refine ⟨a.eval x, w, χ, ?_, Step.pure hg hx⟩
    obtain ⟨vs, hv, _⟩ := hx
    simp [execOp, ho, hv]
  · cases h

def absExtract (s : AS) (x : Operand) (i : Nat) : Option OR :=
  match s.opd x with
  | .tup l => match l[i]? with
    | some p => some { av := .pv p }
    | none => none
  | _ => none

theorem absExtract_ok {X : Ctx} {s : AS} {o : Oper} {x : Operand} {i : Nat} {r : OR} (ho : o.op = .extract x i) (h : absExtract s x i = some r) : VOK X s o r := by
  intro χ a w hg _
  have hx := s.opd_ok hg x
  unfold absExtract at h
  split at h
  · rename_i l e
    rw [e] at hx
    obtain ⟨cs, hv, h2⟩ := hx
    split at h
    · rename_i p hp
      cases h
      obtain ⟨v, hc, hgv⟩ := h2.get hp
      have hc' : cs[i]? = some v := by simpa using hc
      refine ⟨v, w, χ, ?_, Step.pure hg hgv⟩
      simp [execOp, ho, hv, Instr.extract, hc']
    · cases h
  · cases h

def AS.dec (s : AS) (f : Fm) : Option Bool :=
  bif f.ivT s.iv || fmem f s.fs then some true else bif f.neg.ivT s.iv || fmem f.neg s.fs then some false else none

theorem AS.dec_ok {X : Ctx} {s : AS} {χ : Chi} {a : Act} {w : World} (hg : gS X s χ a w) {f : Fm} {b : Bool} (h : s.dec f = some b) : f.b χ.ρ = b := by
  have key : ∀ g : Fm, (g.ivT s.iv || fmem g s.fs) = true → g.b χ.ρ = true := by
    intro g hh
    rw [Fm.b_iff]
    rcases Bool.or_eq_true _ _ ▸ hh with h2 | h2
    · exact Fm.ivT_ok hg.iv g h2
    · exact fmem_ok h2 hg.fs
  unfold AS.dec at h
  cases h1 : (f.ivT s.iv || fmem f s.fs) with
  | true => simp [h1] at h; rw [h]; exact key f h1
  | false =>
    cases h2 : (f.neg.ivT s.iv || fmem f.neg s.fs) with
    | true =>
      simp [h1, h2] at h
      have := key _ h2
      rw [Fm.neg_b] at this
      rw [h]; simpa using this
    | false => simp [h1, h2] at h

def IV.hull : IV → IV → IV
  | some (a, b), some (c, d) => some (imin a c, imax b d)
  | _, _ => none

def mergeAV (s : AS) (f : Fm) (x y : AV) : Option OR :=
  match x, y with
  | .pv (.one (.int k t)), .pv (.one (.int k' t')) =>
    bif keq k k' then
      bif t.beq t' then some { av := .pv (.one (.int k t)) }
      else some { av := .pv (.one (.int k (.v s.nv))), ivs := [IV.hull (t.ivl s.iv) (t'.ivl s.iv)],
                  fs := [.or (.and f (.eq (.v s.nv) t)) (.and f.neg (.eq (.v s.nv) t'))] }
    else none
  | .pv (.one (.bool g)), .pv (.one (.bool h)) => some { av := .pv (.one (.bool (.or (.and f g) (.and f.neg h)))) }
  | .pv (.one .nilS), .pv (.one .nilS) => some { av := .pv (.one .nilS) }
  | _, _ => none

theorem ivHull_ok {ρ ρ' : Val} {iv : List IV} {n : Nat} {t t' : T} (hi : ivOK ρ 0 iv) (z : Int) (hz : ρ' n = z) (h : z = t.ev ρ ∨ z = t'.ev ρ) : ivOK ρ' n [IV.hull (t.ivl iv) (t'.ivl iv)] := by
  cases h1 : t.ivl iv with
  | none => simp [IV.hull, ivOK]
  | some p =>
    obtain ⟨a, b⟩ := p
    cases h2 : t'.ivl iv with
    | none => simp [IV.hull, ivOK]
    | some q =>
      obtain ⟨c, d⟩ := q
      have e1 := T.ivl_ok hi t _ _ h1
      have e2 := T.ivl_ok hi t' _ _ h2
      have h3 := imin_le a c
      have h4 := le_imax b d
      simp only [IV.hull, ivOK, hz, and_true]
      rcases h with h | h <;> omega

theorem mergeAV_ok {X : Ctx} {s : AS} {f : Fm} {x y : AV} {r : OR} (h : mergeAV s f x y = some r) (hok : r.okb (s.nv + r.ivs.length) = true) {χ : Chi} {a : Act} {w : World} (hg : gS X s χ a w)
    (htx : x.top' ≤ s.nv) (hty : y.top' ≤ s.nv) (hf : f.top ≤ s.nv)
    {vx vy : Value} (hx : gAV X.P χ x vx) (hy : gAV X.P χ y vy) : ∃ χ', Step X s r χ w χ' w (if f.b χ.ρ = true then vx else vy) := by
  unfold mergeAV at h
  split at h
  · rename_i k t k' t'
    cases hk : keq k k' with
    | false => simp [hk] at h
    | true =>
      have hk := keq_eq hk; subst hk
      simp only [gAV, gPV, gSV] at hx hy
      subst hx hy
      cases hb : t.beq t' with
      | true =>
        simp [keq, hb] at h
        have hbe := T.beq_eq hb; subst hbe
        refine ⟨χ, ?_⟩
        rw [ite_self]
        have : r = { av := .pv (.one (.int k t)) } := by cases k <;> simp [keq] at h <;> exact h.symm
        rw [this]
        exact Step.pure hg rfl
      | false =>
        have : r = { av := .pv (.one (.int k (.v s.nv))), ivs := [IV.hull (t.ivl s.iv) (t'.ivl s.iv)], fs := [.or (.and f (.eq (.v s.nv) t)) (.and f.neg (.eq (.v s.nv) t'))] } := by
          cases k <;> simp [keq, hb] at h <;> exact h.symm
        subst this
        let z : Int := if f.b χ.ρ = true then t.ev χ.ρ else t'.ev χ.ρ
        have hz : rext χ.ρ s.nv [z] s.nv = z := by have := rext_get (ρ := χ.ρ) (n := s.nv) (zs := [z]) (j := 0) (z := z) rfl; simpa using this
        have hlt : ∀ i, i < s.nv → rext χ.ρ s.nv [z] i = χ.ρ i := fun i hi => rext_lt hi
        have et : t.ev (rext χ.ρ s.nv [z]) = t.ev χ.ρ := T.ev_congr hlt t htx
        have et' : t'.ev (rext χ.ρ s.nv [z]) = t'.ev χ.ρ := T.ev_congr hlt t' hty
        have ef : f.b (rext χ.ρ s.nv [z]) = f.b χ.ρ := Fm.b_congr hlt f hf
        have hzz : z = t.ev χ.ρ ∨ z = t'.ev χ.ρ := by
          by_cases hfb : f.b χ.ρ = true
          · left; simp [z, hfb]
          · right; simp [z, hfb]
        refine ⟨_, Step.quiet hg [z] (.inl rfl) ?_ ?_ (ivHull_ok hg.iv z hz hzz) rfl⟩
        · show _ = Value.int k _
          simp only [T.ev, Chi.withρ, hz]
          by_cases hfb : f.b χ.ρ = true <;> simp [z, hfb]
        · refine ⟨?_, trivial⟩
          rw [← Fm.b_iff]
          simp only [Fm.b, Fm.neg_b, ef, T.ev, hz, et, et']
          by_cases hfb : f.b χ.ρ = true
          · simp [z, hfb]
          · simp [z, hfb]
  · rename_i g h'
    cases h
    simp only [gAV, gPV, gSV] at hx hy
    subst hx hy
    refine ⟨χ, Step.pure hg ?_⟩
    show _ = Value.bool _
    simp only [Fm.b, Fm.neg_b]
    by_cases hfb : f.b χ.ρ = true <;> simp [hfb]
  · cases h
    simp only [gAV, gPV, gSV] at hx hy
    subst hx hy
    refine ⟨χ, Step.pure hg ?_⟩
    rw [ite_self]; rfl
  · cases h

def absPick (s : AS) (c x y : Operand) : Option OR :=
  match s.osv c with
  | .bool f =>
    match s.dec f with
    | some true => some { av := s.opd x }
    | some false => some { av := s.opd y }
    | none => match mergeAV s f (s.opd x) (s.opd y) with
      | some r => bif r.okb (s.nv + r.ivs.length) && Nat.ble (s.opd x).top' s.nv && Nat.ble (s.opd y).top' s.nv && Nat.ble f.top s.nv then some r else none
      | none => none
  | _ => none

theorem absPick_ok {X : Ctx} {s : AS} {o : Oper} {c x y : Operand} {r : OR} (ho : o.op = .pick c x y) (h : absPick s c x y = some r) : VOK X s o r := by
  intro χ a w hg _
  have hc := s.osv_ok hg c
  unfold absPick at h
  split at h
  · rename_i f e
    rw [e] at hc
    simp only [gSV] at hc
    have hrun : (execOp a.eval o).run X.P w = .ok (.value (if f.b χ.ρ = true then a.eval x else a.eval y)) w := by
      simp [execOp, ho, hc, asBool]
    rw [hrun]
    split at h
    · rename_i hd
      cases h
      exact ⟨_, w, χ, rfl, by rw [s.dec_ok hg hd]; exact Step.pure hg (s.opd_ok hg x)⟩
    · rename_i hd
      cases h
      exact ⟨_, w, χ, rfl, by rw [s.dec_ok hg hd]; exact Step.pure hg (s.opd_ok hg y)⟩
    · split at h
      · rename_i r' hm
        cases hk : (r'.okb (s.nv + r'.ivs.length) && Nat.ble (s.opd x).top' s.nv && Nat.ble (s.opd y).top' s.nv && Nat.ble f.top s.nv) with
        | false => simp [hk] at h
        | true =>
          simp only [hk, cond_true, Option.some.injEq] at h
          subst h
          simp only [Bool.and_eq_true, Nat.ble_eq] at hk
          obtain ⟨χ', hs⟩ := mergeAV_ok hm hk.1.1.1 hg hk.1.1.2 hk.1.2 hk.2 (s.opd_ok hg x) (s.opd_ok hg y)
          exact ⟨_, w, χ', rfl, hs⟩
      · cases h
  · cases h

end Go.Sx

namespace Go.Sx
open Go

def absNew (s : AS) (E : TypeId) (cells : List SV) : OR :=
  { av := .pv (.one (.ptr s.nv 0)), ivs := [none], hp := [⟨s.nv, E, cells⟩] }

theorem absNew_step {X : Ctx} {s : AS} {χ : Chi} {a : Act} {w : World} (hg : gS X s χ a w) {E : TypeId} {cells : List SV} {cs : Array Value}
    (ht : ∀ c ∈ cells, c.top' ≤ s.nv) (hc : All2 (gSV X.P χ) cells cs.toList) (h1 : ∀ x ∈ cs.toList, x.oneCell' = true) :
    Step X s (absNew s E cells) χ w (χ.withρ (rext χ.ρ s.nv [(w.heap.size : Int)])) (w.alloc (.cells cs E)) (.pointer (some ⟨w.heap.size, 0, none⟩)) := by
  have hz : rext χ.ρ s.nv [(w.heap.size : Int)] s.nv = (w.heap.size : Int) := by
    have := rext_get (ρ := χ.ρ) (n := s.nv) (zs := [(w.heap.size : Int)]) (j := 0) rfl; simpa using this
  have hx := Ext.rext χ s.nv [(w.heap.size : Int)]
  refine { ext := hx, mem := (MemExt.allocPlain χ w _).withρ _, inv := (hg.inv.allocPlain _).withρ _, val := ?_, fs := trivial, iv := trivial, hp := ?_, dist := ?_ }
  · show _ = Value.pointer _
    simp only [Chi.withρ, hz, Int.toNat_natCast]
  · intro e he
    simp only [absNew, List.mem_singleton] at he
    subst he
    simp only [HEok, Chi.withρ, hz, Int.toNat_natCast]
    refine ⟨⟨hg.mem.size, fun hA => ?_, cs, by rw [alloc_get, if_pos rfl], hc.imp fun s' hs' b hb => gSV.ext hx hg.inv.sub (ht s' hs') hb, h1⟩, Nat.le_refl _⟩
    have := hg.inv.lt hA
    omega
  · simp [absNew]

def absAlloc (P : Program) (s : AS) (E : TypeId) : Option OR :=
  match zeroAt P E with
  | some z => bif z.cells.toList.all (·.oneCell') then some (absNew s E (z.cells.toList.map constSV)) else none
  | none => none

theorem constSV_top (v : Value) : (constSV v).top' = 0 := by
  unfold constSV; split <;> simp [SV.top', T.top, Fm.top]

theorem absAlloc_ok {X : Ctx} {s : AS} {o : Oper} {E : TypeId} {r : OR} (ho : o.op = .alloc E) (h : absAlloc X.P s E = some r) : VOK X s o r := by
  intro χ a w hg _
  unfold absAlloc at h
  split at h
  · rename_i z hz
    cases hall : z.cells.toList.all (·.oneCell') with
    | false => simp [hall] at h
    | true =>
      simp only [hall, cond_true, Option.some.injEq] at h
      subst h
      refine ⟨_, _, _, ?_, absNew_step hg ?_ (all2_map_const X.P χ z.cells.toList) (List.all_eq_true.1 hall)⟩
      · simp [execOp, ho, Instr.alloc, run_zeroAt hz, newVar, newRow]
      · intro c hc
        simp only [List.mem_map] at hc
        obtain ⟨v, _, rfl⟩ := hc
        rw [constSV_top]; omega
  · cases h

def absBox (s : AS) (E : TypeId) (x : Operand) : Option OR :=
  match (s.opd x).cells with
  | some l => bif l.all (fun c => Nat.ble c.top' s.nv) then some (absNew s E l) else none
  | none => none

theorem absBox_ok {X : Ctx} {s : AS} {o : Oper} {E : TypeId} {x : Operand} {r : OR} (ho : o.op = .box E x) (h : absBox s E x = some r) : VOK X s o r := by
  intro χ a w hg _
  unfold absBox at h
  split at h
  · rename_i l hl
    cases hall : l.all (fun c => Nat.ble c.top' s.nv) with
    | false => simp [hall] at h
    | true =>
      simp only [hall, cond_true, Option.some.injEq] at h
      subst h
      have hc := AV.cells_ok (s.opd_ok hg x) hl
      refine ⟨_, _, _, ?_, absNew_step hg ?_ hc.1 hc.2⟩
      · simp [execOp, ho, Instr.box, newVar, newRow]
      · intro c hcm
        have := List.all_eq_true.1 hall c hcm
        simpa using this
  · cases h

def hpFind (b : Nat) : List HE → Option HE
  | [] => none
  | e :: l => bif Nat.beq e.b b then some e else hpFind b l

theorem hpFind_mem {b : Nat} : ∀ {l : List HE} {e : HE}, hpFind b l = some e → e ∈ l ∧ e.b = b := by
  intro l
  induction l with
  | nil => intro e h; cases h
  | cons x l ih =>
    intro e h
    simp only [hpFind] at h
    cases hb : Nat.beq x.b b with
    | true => simp [hb] at h; subst h; exact ⟨by simp, by simpa using hb⟩
    | false => simp [hb] at h; obtain ⟨h1, h2⟩ := ih h; exact ⟨by simp [h1], h2⟩

theorem all2_drop {α β : Type} {R : α → β → Prop} : ∀ (n : Nat) {l : List α} {m : List β}, All2 R l m → All2 R (l.drop n) (m.drop n) := by
  intro n
  induction n with
  | zero => intro l m h; simpa using h
  | succ n ih =>
    intro l m h
    cases l with
    | nil => cases m with
      | nil => simpa using h
      | cons b m => exact h.elim
    | cons a l => cases m with
      | nil => exact h.elim
      | cons b m => simpa using ih h.2

theorem all2_take {α β : Type} {R : α → β → Prop} : ∀ (n : Nat) {l : List α} {m : List β}, All2 R l m → All2 R (l.take n) (m.take n) := by
  intro n
  induction n with
  | zero => intro l m _; simp; trivial
  | succ n ih =>
    intro l m h
    cases l with
    | nil => cases m with
      | nil => simpa using h
      | cons b m => exact h.elim
    | cons a l => cases m with
      | nil => exact h.elim
      | cons b m => exact ⟨h.1, ih h.2⟩

theorem extract_toList (cs : Array Value) (i j : Nat) : (cs.extract i (i + j)).toList = (cs.toList.drop i).take j := by
  rw [Array.toList_extract, List.extract_eq_take_drop, show i + j - i = j by omega]

theorem mem_take_drop {α : Type} {l : List α} {i j : Nat} {x : α} (h : x ∈ (l.drop i).take j) : x ∈ l := List.mem_of_mem_drop (List.mem_of_mem_take h)

theorem load_strong {X : Ctx} {s : AS} {χ : Chi} {a : Act} {w : World} (hg : gS X s χ a w) {b off n : Nat} {e : HE} (he : hpFind b s.hp = some e) (hn : off + n ≤ e.cells.length) :
    ∃ cs : Array Value, (loadCells ⟨(χ.ρ b).toNat, off, none⟩ n).run X.P w = .ok cs w ∧ All2 (gSV X.P χ) ((e.cells.drop off).take n) cs.toList ∧ (∀ x ∈ cs.toList, x.oneCell' = true) ∧
      (n = 1 → ∃ v, (load ⟨(χ.ρ b).toNat, off, none⟩).run X.P w = .ok v w ∧ cs = #[v]) := by
  obtain ⟨hm, rfl⟩ := hpFind_mem he
  obtain ⟨_, _, cs, hc, h2, h1⟩ := hg.hp e hm
  have hlen := h2.length
  have hsz : off + n ≤ cs.size := by simpa [hlen] using hn
  refine ⟨cs.extract off (off + n), run_loadCells_blk X.P hc off n hsz, ?_, ?_, ?_⟩
  · rw [extract_toList]; exact all2_take n (all2_drop off h2)
  · rw [extract_toList]; intro x hx; exact h1 x (mem_take_drop hx)
  · rintro rfl
    have hlt : off < cs.size := by omega
    refine ⟨cs[off], ?_, ?_⟩
    · rw [run_load, cell?_blk hc]; simp [hlt]
    · apply Array.ext_getElem?
      intro i
      rw [Array.getElem?_extract]
      rcases i with _ | i
      · simp [hlt]; omega
      · simp; omega

def mkPV (agg : Bool) (l : List SV) : Option PV :=
  bif agg then some (.agg l) else match l with
    | [x] => some (.one x)
    | _ => none

def freshCell (fr : Bool) (n : Nat) (iv : List IV) : SCT → SV × List IV × List Fm
  | .int k lo hi => (.int k (.v n), [match lo.ivl iv, hi.ivl iv with | some (a, _), some (_, b) => some (a, b) | _, _ => none],
      match lo, hi with | .c _, .c _ => [] | _, _ => [.le lo (.v n), .le (.v n) hi])
  | .bool => (.bool (.eq (.v n) (.c 1)), [some (0, 1)], [])
  | .str => (.str (.v n), [some (0, LB)], [])
  | .slice E => (.slice fr E (.v n) (.v (n + 1)), [some (0, LB), some (0, CB)], [.le (.v n) (.v (n + 1))])
  | .sliceB m E => (.slice fr E (.v n) (.v (n + 1)), [some (0, (m : Int)), some (0, CB)], [.le (.v n) (.v (n + 1))])
  | .strB m => (.str (.v n), [some (0, (m : Int))], [])
  | .any => (.top, [], [])

def freshCells (fr : Bool) (iv : List IV) : Nat → List SCT → List SV × List IV × List Fm
  | _, [] => ([], [], [])
  | n, c :: l =>
    let x := freshCell fr n iv c
    let y := freshCells fr iv (n + x.2.1.length) l
    (x.1 :: y.1, x.2.1 ++ y.2.1, x.2.2 ++ y.2.2)

theorem freshCell_ok {P : Program} {χ : Chi} {fr : Bool} {iv : List IV} (hiv : ivOK χ.ρ 0 iv) {c : SCT} {v : Value} (hc : CellOK P χ (χ.S fr) (c.ev χ.ρ) v) (n : Nat) :
    ∃ zs : List Int, zs.length = (freshCell fr n iv c).2.1.length ∧ ∀ ρ' : Val, (∀ i, i < c.top → ρ' i = χ.ρ i) → (∀ j z, zs[j]? = some z → ρ' (n + j) = z) →
      gSV P (χ.withρ ρ') (freshCell fr n iv c).1 v ∧ ivOK ρ' n (freshCell fr n iv c).2.1 ∧ holdsAll ρ' (freshCell fr n iv c).2.2 := by
  cases c with
  | int k lo hi =>
    obtain ⟨z, rfl, h1, h2⟩ := hc
    refine ⟨[z], rfl, fun ρ' hρ hz => ?_⟩
    have e0 : ρ' n = z := by have := hz 0 z rfl; simpa using this
    simp only [SCT.top] at hρ
    have el : lo.ev ρ' = lo.ev χ.ρ := T.ev_congr (fun i hi => hρ i hi) lo (by omega)
    have eh : hi.ev ρ' = hi.ev χ.ρ := T.ev_congr (fun i hi => hρ i hi) hi (by omega)
    refine ⟨?_, ?_, ?_⟩
    · show _ = Value.int k _; simp [T.ev, Chi.withρ, e0]
    · simp only [freshCell]
      cases hl : lo.ivl iv with
      | none => simp [ivOK]
      | some p =>
        obtain ⟨x, y⟩ := p
        cases hh : hi.ivl iv with
        | none => simp [ivOK]
        | some q =>
          obtain ⟨x', y'⟩ := q
          have := (T.ivl_ok hiv lo _ _ hl).1
          have := (T.ivl_ok hiv hi _ _ hh).2
          simp only [ivOK, e0, and_true]; omega
    · simp only [freshCell]
      split
      · trivial
      · refine ⟨?_, ?_, trivial⟩
        · simp only [Fm.holds, T.ev, e0, el]; exact h1
        · simp only [Fm.holds, T.ev, e0, eh]; exact h2
  | bool =>
    obtain ⟨b, rfl⟩ := hc
    refine ⟨[if b then 1 else 0], rfl, fun ρ' _ hz => ?_⟩
    have e0 : ρ' n = if b then 1 else 0 := by have := hz 0 _ rfl; simpa using this
    refine ⟨?_, ?_, trivial⟩
    · show _ = Value.bool _; simp only [Fm.b, T.ev, Chi.withρ, e0]; cases b <;> simp
    · simp only [freshCell, ivOK, e0, and_true]; cases b <;> simp
  | str =>
    obtain ⟨s, rfl, h1⟩ := hc
    refine ⟨[(s.size : Int)], rfl, fun ρ' _ hz => ?_⟩
    have e0 : ρ' n = (s.size : Int) := by have := hz 0 _ rfl; simpa using this
    refine ⟨⟨s, rfl, by simp [T.ev, Chi.withρ, e0]⟩, ?_, trivial⟩
    simp only [freshCell, ivOK, e0, and_true]; omega
  | slice E =>
    obtain ⟨ao, l, c, rfl, h1, h2, h3, h4⟩ := hc
    refine ⟨[(l : Int), (c : Int)], rfl, fun ρ' hρ hz => ?_⟩
    have e0 : ρ' n = (l : Int) := by have := hz 0 _ rfl; simpa using this
    have e1 : ρ' (n + 1) = (c : Int) := by have := hz 1 _ rfl; simpa using this
    refine ⟨⟨ao, l, c, rfl, by simp [T.ev, Chi.withρ, e0], by simp [T.ev, Chi.withρ, e1], h1, h3, ?_⟩, ?_, ?_⟩
    · have : E.ev (χ.withρ ρ').ρ = E.ev χ.ρ := SE.ev_congr (fun i hi => hρ i (by simpa [SCT.top] using hi)) E (Nat.le_refl _)
      rw [this]
      exact h4
    · simp only [freshCell, ivOK, e0, e1, and_true]; omega
    · refine ⟨?_, trivial⟩
      simp only [Fm.holds, T.ev, e0, e1]; omega
  | sliceB m E =>
    obtain ⟨ao, l, c, rfl, h1, h2, h3, h4⟩ := hc
    refine ⟨[(l : Int), (c : Int)], rfl, fun ρ' hρ hz => ?_⟩
    have e0 : ρ' n = (l : Int) := by have := hz 0 _ rfl; simpa using this
    have e1 : ρ' (n + 1) = (c : Int) := by have := hz 1 _ rfl; simpa using this
    refine ⟨⟨ao, l, c, rfl, by simp [T.ev, Chi.withρ, e0], by simp [T.ev, Chi.withρ, e1], h1, h3, ?_⟩, ?_, ?_⟩
    · have : E.ev (χ.withρ ρ').ρ = E.ev χ.ρ := SE.ev_congr (fun i hi => hρ i (by simpa [SCT.top] using hi)) E (Nat.le_refl _)
      rw [this]
      exact h4
    · simp only [freshCell, ivOK, e0, e1, and_true]; omega
    · refine ⟨?_, trivial⟩
      simp only [Fm.holds, T.ev, e0, e1]; omega
  | strB m =>
    obtain ⟨s, rfl, h1⟩ := hc
    refine ⟨[(s.size : Int)], rfl, fun ρ' _ hz => ?_⟩
    have e0 : ρ' n = (s.size : Int) := by have := hz 0 _ rfl; simpa using this
    refine ⟨⟨s, rfl, by simp [T.ev, Chi.withρ, e0]⟩, ?_, trivial⟩
    simp only [freshCell, ivOK, e0, and_true]; omega
  | any => exact ⟨[], rfl, fun ρ' _ _ => ⟨trivial, trivial, trivial⟩⟩

theorem freshCells_ok {P : Program} {χ : Chi} {fr : Bool} {iv : List IV} (hiv : ivOK χ.ρ 0 iv) {M : Nat} : ∀ (cts : List SCT) (vs : List Value) (n : Nat), M ≤ n → (∀ c ∈ cts, c.top ≤ M) →
    All2 (fun c v => CellOK P χ (χ.S fr) (c.ev χ.ρ) v) cts vs →
    ∃ zs : List Int, zs.length = (freshCells fr iv n cts).2.1.length ∧ ∀ ρ' : Val, (∀ i, i < M → ρ' i = χ.ρ i) → (∀ j z, zs[j]? = some z → ρ' (n + j) = z) →
      All2 (gSV P (χ.withρ ρ')) (freshCells fr iv n cts).1 vs ∧ ivOK ρ' n (freshCells fr iv n cts).2.1 ∧ holdsAll ρ' (freshCells fr iv n cts).2.2 := by
  intro cts
  induction cts with
  | nil => intro vs n _ _ h; cases vs with
    | nil => exact ⟨[], rfl, fun ρ' _ _ => ⟨trivial, trivial, trivial⟩⟩
    | cons v vs => exact h.elim
  | cons c cts ih =>
    intro vs n hM ht h
    cases vs with
    | nil => exact h.elim
    | cons v vs =>
      obtain ⟨z1, hz1, k1⟩ := freshCell_ok hiv h.1 n
      obtain ⟨z2, hz2, k2⟩ := ih vs (n + (freshCell fr n iv c).2.1.length) (by omega) (fun c hc => ht c (by simp [hc])) h.2
      refine ⟨z1 ++ z2, by simp [freshCells, hz1, hz2], fun ρ' hρ hz => ?_⟩
      have a1 := k1 ρ' (fun i hi => hρ i (Nat.lt_of_lt_of_le hi (ht c (by simp)))) (fun j z hj => hz j z (by
        rw [List.getElem?_append_left]; exact hj
        rcases Nat.lt_or_ge j z1.length with h | h
        · exact h
        · simp [List.getElem?_eq_none h] at hj))
      have a2 := k2 ρ' hρ (fun j z hj => by
        have := hz (z1.length + j) z (by rw [List.getElem?_append_right (by omega)]; simpa using hj)
        rw [← hz1, show n + z1.length + j = n + (z1.length + j) by omega]; exact this)
      refine ⟨⟨a1.1, a2.1⟩, ?_, ?_⟩
      · simp only [freshCells]; rw [ivOK_append]; exact ⟨a1.2.1, a2.2.1⟩
      · simp only [freshCells]; rw [holdsAll_append]; exact ⟨a1.2.2, a2.2.2⟩

theorem load_weak {P : Program} {χ : Chi} {w : World} (hi : Inv P χ w) {fr : Bool} {b o : Nat} {cs : List SCT} (hb : χ.S fr b)
    (hk : ∀ i, i < cs.length → χ.κ b (o + i) = (cs.map (SCT.ev χ.ρ))[i]?) {n : Nat} (hn : n ≤ cs.length) :
    ∃ vs : Array Value, (loadCells ⟨b, o, none⟩ n).run P w = .ok vs w ∧ All2 (fun c v => CellOK P χ (χ.S fr) (c.ev χ.ρ) v) (cs.take n) vs.toList ∧
      (n = 1 → ∃ v, (load ⟨b, o, none⟩).run P w = .ok v w ∧ vs = #[v]) := by
  obtain ⟨hc, E, fz, hblk, hty⟩ := hi.read hb
  have hget : ∀ i, i < n → ∃ v, hc[o + i]? = some v ∧ ∃ c, cs[i]? = some c ∧ CellOK P χ (χ.S fr) (c.ev χ.ρ) v := by
    intro i hin
    have hlt : i < cs.length := by omega
    have := hk i hlt
    rw [List.getElem?_map, List.getElem?_eq_getElem hlt, Option.map_some] at this
    obtain ⟨v, hv, hcell⟩ := hty _ _ this
    exact ⟨v, hv, cs[i], List.getElem?_eq_getElem hlt, hcell⟩
  have hsz : n = 0 ∨ o + n ≤ hc.size := by
    rcases Nat.eq_zero_or_pos n with h0 | h0
    · exact .inl h0
    · right
      obtain ⟨v, hv, _⟩ := hget (n - 1) (by omega)
      rcases Nat.lt_or_ge (o + (n - 1)) hc.size with h | h
      · omega
      · simp [Array.getElem?_eq_none h] at hv
  rcases hsz with h0 | hsz
  · subst h0
    exact ⟨#[], by simp [loadCells, loadCellsFrom], by simp [All2], fun h => by omega⟩
  refine ⟨hc.extract o (o + n), run_loadCells_blk P hblk o n hsz, ?_, ?_⟩
  · rw [extract_toList]
    have key : ∀ (k : Nat), k ≤ n → All2 (fun c v => CellOK P χ (χ.S fr) (c.ev χ.ρ) v) ((cs.drop (n - k)).take k) ((hc.toList.drop (o + (n - k))).take k) := by
      intro k
      induction k with
      | zero => intro _; simp [All2]
      | succ k ih =>
        intro hk'
        obtain ⟨v, hv, c, hcc, hcell⟩ := hget (n - (k + 1)) (by omega)
        have e1 : cs.drop (n - (k + 1)) = c :: cs.drop (n - k) := by
          have hlt : n - (k + 1) < cs.length := by omega
          rw [List.drop_eq_getElem_cons hlt]
          rw [List.getElem?_eq_getElem hlt] at hcc
          cases hcc
          rw [show n - (k + 1) + 1 = n - k by omega]
        have e2 : hc.toList.drop (o + (n - (k + 1))) = v :: hc.toList.drop (o + (n - k)) := by
          have hlt : o + (n - (k + 1)) < hc.toList.length := by simp; omega
          rw [List.drop_eq_getElem_cons hlt]
          have : hc.toList[o + (n - (k + 1))]? = some v := by simpa using hv
          rw [List.getElem?_eq_getElem hlt] at this
          cases this
          rw [show o + (n - (k + 1)) + 1 = o + (n - k) by omega]
        rw [e1, e2]
        exact ⟨hcell, ih (by omega)⟩
    have := key n (Nat.le_refl _)
    simpa using this
  · rintro rfl
    obtain ⟨v, hv, _⟩ := hget 0 (by omega)
    simp only [Nat.add_zero] at hv
    refine ⟨v, ?_, ?_⟩
    · rw [run_load, cell?_blk hblk, hv]
    · apply Array.ext_getElem?
      intro i
      rw [Array.getElem?_extract]
      rcases i with _ | i
      · simp [hv]; omega
      · simp; omega

def absLoad (P : Program) (s : AS) (t : TypeId) (x : Operand) : Option OR :=
  match aggOf P t, sizeAt P t with
  | some agg, some sz =>
    let n := bif agg then sz else 1
    match s.osv x with
    | .ptr b off =>
      match hpFind b s.hp with
      | some e => bif Nat.ble (off + n) e.cells.length then
          (match mkPV agg ((e.cells.drop off).take n) with
           | some p => some { av := .pv p }
           | none => none)
        else none
      | none => none
    | .wptr fr cs =>
      bif Nat.ble n cs.length && (cs.take n).all (fun c => Nat.ble c.top s.nv) then
        let f := freshCells fr s.iv s.nv (cs.take n)
        (match mkPV agg f.1 with
         | some p => some { av := .pv p, ivs := f.2.1, fs := f.2.2 }
         | none => none)
      else none
    | _ => none
  | _, _ => none

theorem mkPV_ok {P : Program} {χ : Chi} {agg : Bool} {l : List SV} {p : PV} {cs : Array Value} (h : mkPV agg l = some p) (h2 : All2 (gSV P χ) l cs.toList) (h1 : ∀ x ∈ cs.toList, x.oneCell' = true)
    {v : Value} (hv : if agg then v = .agg cs else cs = #[v]) : gPV P χ p v := by
  unfold mkPV at h
  cases agg with
  | true =>
    simp only [cond_true, Option.some.injEq] at h; subst h
    simp only [if_true] at hv
    exact ⟨cs, hv, h2, h1⟩
  | false =>
    simp only [cond_false] at h
    simp only [Bool.false_eq_true, if_false] at hv
    subst hv
    split at h
    · cases h; exact h2.1
    · cases h

theorem absLoad_ok {X : Ctx} {s : AS} {o : Oper} {t : TypeId} {x : Operand} {r : OR} (ho : o.op = .load t x) (h : absLoad X.P s t x = some r) : VOK X s o r := by
  intro χ a w hg _
  have hx := s.osv_ok hg x
  unfold absLoad at h
  split at h
  rotate_left
  · cases h
  rename_i agg sz hagg hsz
  dsimp only at h
  have hrun : ∀ (b off : Nat) (cs : Array Value), a.eval x = .pointer (some ⟨b, off, none⟩) → (loadCells ⟨b, off, none⟩ (bif agg then sz else 1)).run X.P w = .ok cs w →
      ((bif agg then sz else 1) = 1 → ∃ v, (load ⟨b, off, none⟩).run X.P w = .ok v w ∧ cs = #[v]) →
      ∃ v, (execOp a.eval o).run X.P w = .ok (.value v) w ∧ (if agg then v = .agg cs else cs = #[v]) := by
    intro b off cs hv hl h1
    cases agg with
    | true =>
      simp only [cond_true] at hl
      exact ⟨.agg cs, by simp [execOp, ho, Instr.loadAt, Instr.sureAddr, hv, loadVar, run_aggOf hagg, run_sizeAt hsz, hl], by simp⟩
    | false =>
      obtain ⟨v, hl1, hcs⟩ := h1 rfl
      exact ⟨v, by simp only [execOp, ho, Instr.loadAt, Instr.sureAddr, hv, loadVar]; simp [run_aggOf hagg, hl1, -run_load], by simp [hcs]⟩
  split at h
  · rename_i b off e
    rw [e] at hx
    simp only [gSV] at hx
    split at h
    rotate_left
    · cases h
    rename_i he hfind
    cases hn : Nat.ble (off + bif agg then sz else 1) he.cells.length with
    | false => simp [hn] at h
    | true =>
      simp only [hn, cond_true] at h
      obtain ⟨cs, hl, h2, h1, h3⟩ := load_strong hg hfind (by simpa using hn)
      obtain ⟨v, hr, hv⟩ := hrun _ _ cs hx hl h3
      split at h
      · rename_i p hp
        cases h
        exact ⟨v, w, χ, hr, Step.pure hg (mkPV_ok hp h2 h1 hv)⟩
      · cases h
  · rename_i fr cs e
    rw [e] at hx
    obtain ⟨b, off, hv0, hb, hk⟩ := hx
    cases hn : (Nat.ble (bif agg then sz else 1) cs.length && (cs.take (bif agg then sz else 1)).all (fun c => Nat.ble c.top s.nv)) with
    | false => simp [hn] at h
    | true =>
      simp only [hn, cond_true] at h
      simp only [Bool.and_eq_true, Nat.ble_eq, List.all_eq_true] at hn
      obtain ⟨vs, hl, h2, h3⟩ := load_weak hg.inv hb hk hn.1
      obtain ⟨v, hr, hv⟩ := hrun _ _ vs hv0 hl h3
      obtain ⟨zs, hz, k⟩ := freshCells_ok (M := s.nv) hg.iv _ _ s.nv (Nat.le_refl _) hn.2 h2
      have hk2 := k (rext χ.ρ s.nv zs) (fun i hi => rext_lt hi) (fun j z hj => rext_get hj)
      split at h
      · rename_i p hp
        cases h
        refine ⟨v, w, _, hr, Step.quiet hg zs (.inl rfl) ?_ hk2.2.2 hk2.2.1 rfl⟩
        refine mkPV_ok hp hk2.1 ?_ hv
        intro y hy
        obtain ⟨i, hi, hyi⟩ := List.getElem_of_mem hy
        have hlen := h2.length
        have : ∃ c, (cs.take (bif agg then sz else 1))[i]? = some c := by
          have : i < (cs.take (bif agg then sz else 1)).length := by rw [hlen]; exact hi
          exact ⟨_, List.getElem?_eq_getElem this⟩
        obtain ⟨c, hc⟩ := this
        obtain ⟨y', hy', hcell⟩ := h2.get hc
        rw [List.getElem?_eq_getElem hi, hyi] at hy'
        cases hy'
        exact hcell.one
      · cases h
  · cases h

end Go.Sx

namespace Go.Sx
open Go

def absFieldAddr (P : Program) (s : AS) (t : TypeId) (x : Operand) (i : Nat) : Option OR :=
  match P.underlying t with
  | some (.struct fs) =>
    match fs[i]? with
    | some f =>
      match sizeAt P f.type with
      | some (sz + 1) =>
        match s.osv x with
        | .ptr b off => some { av := .pv (.one (.ptr b (off + f.offset))) }
        | .wptr fr cs => bif Nat.ble (f.offset + (sz + 1)) cs.length then some { av := .pv (.one (.wptr fr ((cs.drop f.offset).take (sz + 1)))) } else none
        | _ => none
      | _ => none
    | none => none
  | _ => none

theorem absFieldAddr_ok {X : Ctx} {s : AS} {o : Oper} {t : TypeId} {x : Operand} {i : Nat} {r : OR} (ho : o.op = .fieldAddr t x i) (h : absFieldAddr X.P s t x i = some r) : VOK X s o r := by
  intro χ a w hg _
  have hx := s.osv_ok hg x
  unfold absFieldAddr at h
  split at h
  rotate_left
  · cases h
  rename_i fs hu
  split at h
  rotate_left
  · cases h
  rename_i f hf
  split at h
  rotate_left
  · cases h
  rename_i sz hsz
  have hrun : ∀ b off, a.eval x = .pointer (some ⟨b, off, none⟩) → (execOp a.eval o).run X.P w = .ok (.value (.pointer (some ⟨b, off + f.offset, none⟩))) w := by
    intro b off hv
    simp [execOp, ho, Instr.fieldAt, Instr.sureAddr, run_und hu, hf, hv, fieldPlace, run_sizeAt hsz, Addr.add_none]
  split at h
  · rename_i b off e
    rw [e] at hx; cases h
    simp only [gSV] at hx
    exact ⟨_, w, χ, hrun _ _ hx, Step.pure hg rfl⟩
  · rename_i fr cs e
    rw [e] at hx
    obtain ⟨b, off, hv, hb, hk⟩ := hx
    cases hn : Nat.ble (f.offset + (sz + 1)) cs.length with
    | false => simp [hn] at h
    | true =>
      simp only [hn, cond_true, Option.some.injEq] at h
      subst h
      have hn : f.offset + (sz + 1) ≤ cs.length := by simpa using hn
      refine ⟨_, w, χ, hrun _ _ hv, Step.pure hg ⟨b, off + f.offset, rfl, hb, fun j hj => ?_⟩⟩
      have hj' : j < sz + 1 := by simp at hj; omega
      rw [show off + f.offset + j = off + (f.offset + j) by omega, hk _ (by omega)]
      simp only [List.getElem?_map, List.getElem?_take, hj', if_true, List.getElem?_drop]
  · cases h

def absField (P : Program) (s : AS) (t : TypeId) (x : Operand) (i : Nat) : Option OR :=
  match P.underlying t with
  | some (.struct fs) =>
    match fs[i]? with
    | some f =>
      match aggOf P f.type, sizeAt P f.type, s.opd x with
      | some agg, some sz, .pv (.agg l) =>
        let n := bif agg then sz else 1
        bif Nat.ble (f.offset + n) l.length then
          (match mkPV agg ((l.drop f.offset).take n) with
           | some p => some { av := .pv p }
           | none => none)
        else none
      | _, _, _ => none
    | none => none
  | _ => none

theorem run_part {P : Program} {w : World} {t : TypeId} {agg : Bool} {sz : Nat} (ha : aggOf P t = some agg) (hs : sizeAt P t = some sz) (cs : Array Value) (off : Nat)
    (hn : off + (bif agg then sz else 1) ≤ cs.size) :
    ∃ v, (part t cs off).run P w = .ok v w ∧ (if agg then v = .agg (cs.extract off (off + (bif agg then sz else 1))) else cs.extract off (off + (bif agg then sz else 1)) = #[v]) := by
  cases agg with
  | true => exact ⟨_, by simp [part, run_aggOf ha, run_sizeAt hs]; rfl, by simp⟩
  | false =>
    simp only [cond_false] at hn
    have hlt : off < cs.size := by omega
    refine ⟨cs[off], by simp [part, run_aggOf ha, hlt], ?_⟩
    simp only [Bool.false_eq_true, if_false, cond_false]
    apply Array.ext_getElem?
    intro i
    rw [Array.getElem?_extract]
    rcases i with _ | i
    · simp [hlt]; omega
    · simp; omega

theorem absField_ok {X : Ctx} {s : AS} {o : Oper} {t : TypeId} {x : Operand} {i : Nat} {r : OR} (ho : o.op = .field t x i) (h : absField X.P s t x i = some r) : VOK X s o r := by
  intro χ a w hg _
  have hx := s.opd_ok hg x
  unfold absField at h
  split at h
  rotate_left
  · cases h
  rename_i fs hu
  split at h
  rotate_left
  · cases h
  rename_i f hf
  split at h
  rotate_left
  · cases h
  rename_i agg sz l hagg hsz hl
  rw [hl] at hx
  obtain ⟨cs, hv, h2, h1⟩ := hx
  dsimp only at h
  cases hn : Nat.ble (f.offset + bif agg then sz else 1) l.length with
  | false => simp [hn] at h
  | true =>
    simp only [hn, cond_true] at h
    have hlen := h2.length
    have hn' : f.offset + (bif agg then sz else 1) ≤ cs.size := by
      have : f.offset + (bif agg then sz else 1) ≤ l.length := by simpa using hn
      simpa [hlen] using this
    obtain ⟨v, hr, hvv⟩ := run_part (w := w) hagg hsz cs f.offset hn'
    split at h
    · rename_i p hp
      cases h
      refine ⟨v, w, χ, by simp [execOp, ho, Instr.field, run_und hu, hf, hv, asAgg, hr], Step.pure hg (mkPV_ok hp ?_ ?_ hvv)⟩
      · rw [extract_toList]; exact all2_take _ (all2_drop _ h2)
      · rw [extract_toList]; intro y hy; exact h1 y (mem_take_drop hy)
    · cases h

def sctEqL : List SCT → List SCT → Bool
  | [], [] => true
  | a :: l, b :: m => a.beq b && sctEqL l m
  | _, _ => false

def absIndexAddr (P : Program) (s : AS) (t : TypeId) (x ix : Operand) : Option OR :=
  match s.osv ix with
  | .int _ ti =>
    match P.underlying t, s.osv x with
    | some (.slice e), .slice fr E len _ =>
      match sizeAt P e with
      | some sz => bif Nat.beq (ckS P E).length sz then
          some { av := .pv (.one (.wptr fr (ckS P E))), vcs := s.need (.le (.c 0) ti) ++ s.need (.lt ti len) }
        else none
      | none => none
    | some (.slice e), .sslice b n =>
      match sizeAt P e, ti with
      | some sz, .c z => bif ile 0 z && ile (z + 1) n then some { av := .pv (.one (.ptr b (z.toNat * sz))) } else none
      | some _, ti => bif Nat.beq n 1 then some { av := .pv (.one (.ptr b 0)), vcs := s.need (.le (.c 0) ti) ++ s.need (.lt ti (.c 1)) } else none
      | none, _ => none
    | some (.array len e), .ptr b off =>
      match sizeAt P e, ti with
      | some sz, .c z => bif ile 0 z && ile (z + 1) len then some { av := .pv (.one (.ptr b (off + z.toNat * sz))) } else none
      | _, _ => none
    | some (.array len e), .wptr fr cs =>
      match sizeAt P e with
      | some sz =>
        let one := cs.take sz
        bif Nat.ble (len * sz) cs.length && sctEqL (cs.take (len * sz)) ((List.replicate len one).flatten) && Nat.ble 1 sz then
          some { av := .pv (.one (.wptr fr one)), vcs := s.need (.le (.c 0) ti) ++ s.need (.lt ti (.c len)) }
        else none
      | none => none
    | _, _ => none
  | _ => none

theorem sctEqL_eq : ∀ {l m : List SCT}, sctEqL l m = true → l = m := by
  intro l
  induction l with
  | nil => intro m h; cases m with
    | nil => rfl
    | cons b m => cases h
  | cons a l ih => intro m h; cases m with
    | nil => cases h
    | cons b m => simp only [sctEqL, Bool.and_eq_true] at h; rw [SCT.beq_eq h.1, ih h.2]

theorem flatten_rep_get {α : Type} (one : List α) (sz : Nat) (h : one.length = sz) : ∀ (len i j : Nat), i < len → j < sz → ((List.replicate len one).flatten)[i * sz + j]? = one[j]? := by
  intro len
  induction len with
  | zero => intro i j hi; omega
  | succ len ih =>
    intro i j hi hj
    rw [List.replicate_succ, List.flatten_cons]
    cases i with
    | zero => rw [List.getElem?_append_left (by omega)]; simp
    | succ i =>
      rw [Nat.succ_mul, List.getElem?_append_right (by omega), h, show i * sz + sz + j - sz = i * sz + j by omega]
      exact ih i j (by omega) hj

theorem need2 {X : Ctx} {s : AS} {χ : Chi} {a : Act} {w : World} (hg : gS X s χ a w) {f g : Fm} (h : ∀ x ∈ s.need f ++ s.need g, x.valid) : f.holds χ.ρ ∧ g.holds χ.ρ :=
  ⟨AS.need_ok hg fun x hx => h x (by simp [hx]), AS.need_ok hg fun x hx => h x (by simp [hx])⟩

theorem absIndexAddr_ok {X : Ctx} {s : AS} {o : Oper} {t : TypeId} {x ix : Operand} {r : OR} (ho : o.op = .indexAddr t x ix) (h : absIndexAddr X.P s t x ix = some r) : VOK X s o r := by
  intro χ a w hg hvc
  have hx := s.osv_ok hg x
  have hi := s.osv_ok hg ix
  unfold absIndexAddr at h
  split at h
  rotate_left
  · cases h
  rename_i k ti eix
  rw [eix] at hi
  simp only [gSV] at hi
  split at h
  · rename_i e fr E len cap hu ex
    rw [ex] at hx
    split at h
    rotate_left
    · cases h
    rename_i sz hsz
    cases hn : Nat.beq (ckS X.P E).length sz with
    | false => simp [hn] at h
    | true =>
      simp only [hn, cond_true, Option.some.injEq] at h
      subst h
      have hn : (ckS X.P E).length = sz := by simpa using hn
      obtain ⟨ao, l, c, hv, h1, h2, h3, h4, h5⟩ := hx
      obtain ⟨v0, v1⟩ := need2 hg hvc
      simp only [Fm.holds, T.ev] at v0 v1
      cases ao with
      | none =>
        have h5 : c = 0 := h5
        omega
      | some ad =>
        obtain ⟨b, off, sp⟩ := ad
        obtain ⟨hsp, hb, hk⟩ := h5
        simp only at hsp hb hk
        subst hsp
        refine ⟨_, w, χ, ?_, Step.pure hg ⟨b, off + (ti.ev χ.ρ).toNat * sz, rfl, hb, fun j hj => ?_⟩⟩
        · have hlt : ti.ev χ.ρ < (l : Int) := by rw [h1]; exact v1
          simp [execOp, ho, Instr.indexAt, hi, hv, asIntOf, run_und hu, v0, hlt, run_sizeAt hsz, Addr.add_none]
        · have hlen : (tau X.P (E.ev χ.ρ)).length = sz := by rw [← ckS_ev]; simpa using hn
          rw [hlen] at hk
          have hjs : j < sz := by omega
          have hlt : (ti.ev χ.ρ).toNat < c := by omega
          have hb2 : (ti.ev χ.ρ).toNat * sz + j < c * sz := by
            have : ((ti.ev χ.ρ).toNat + 1) * sz ≤ c * sz := Nat.mul_le_mul_right _ hlt
            rw [Nat.succ_mul] at this; omega
          have := hk _ hb2
          rw [Nat.add_assoc]
          rw [this, ckS_ev, Nat.mul_comm, Nat.mul_add_mod, Nat.mod_eq_of_lt hjs]
  · rename_i e b n hu ex
    rw [ex] at hx
    simp only [gSV] at hx
    split at h
    · rename_i sz z hsz
      cases hn : (ile 0 z && ile (z + 1) n) with
      | false => simp [hn] at h
      | true =>
        simp only [hn, cond_true, Option.some.injEq] at h
        subst h
        simp only [Bool.and_eq_true, ile_iff] at hn
        simp only [T.ev] at hi
        refine ⟨_, w, χ, ?_, Step.pure hg rfl⟩
        have h1 : 0 ≤ z := hn.1
        have h2 : z < (n : Int) := by omega
        simp [execOp, ho, Instr.indexAt, hi, hx, asIntOf, run_und hu, h1, h2, run_sizeAt hsz, Addr.add_none]
    · rename_i sz hsz _
      cases hn : Nat.beq n 1 with
      | false => simp [hn] at h
      | true =>
        simp only [hn, cond_true, Option.some.injEq] at h
        subst h
        obtain ⟨n1, n2⟩ := need2 hg hvc
        simp only [Fm.holds, T.ev] at n1 n2
        have e0 : a.eval ix = .int k 0 := by rw [hi]; congr 1; omega
        have hn : n = 1 := by simpa using hn
        subst hn
        refine ⟨_, w, χ, ?_, Step.pure hg rfl⟩
        simp [execOp, ho, Instr.indexAt, e0, hx, asIntOf, run_und hu, run_sizeAt hsz, Addr.add_none]
    · cases h
  · rename_i len e b off hu ex
    rw [ex] at hx
    simp only [gSV] at hx
    split at h
    rotate_left
    · cases h
    rename_i sz z hsz
    cases hn : (ile 0 z && ile (z + 1) len) with
    | false => simp [hn] at h
    | true =>
      simp only [hn, cond_true, Option.some.injEq] at h
      subst h
      simp only [Bool.and_eq_true, ile_iff] at hn
      simp only [T.ev] at hi
      refine ⟨_, w, χ, ?_, Step.pure hg rfl⟩
      have h1 : 0 ≤ z := hn.1
      have h2 : z < (len : Int) := by omega
      simp [execOp, ho, Instr.indexAt, hi, hx, asIntOf, run_und hu, Instr.sureAddr, h1, h2, run_sizeAt hsz, Addr.add_none]
  · rename_i len e fr cs hu ex
    rw [ex] at hx
    split at h
    rotate_left
    · cases h
    rename_i sz hsz
    dsimp only at h
    cases hn : (Nat.ble (len * sz) cs.length && sctEqL (cs.take (len * sz)) ((List.replicate len (cs.take sz)).flatten) && Nat.ble 1 sz) with
    | false => simp [hn] at h
    | true =>
      simp only [hn, cond_true, Option.some.injEq] at h
      subst h
      simp only [Bool.and_eq_true, Nat.ble_eq] at hn
      obtain ⟨⟨hn1, hn2⟩, hn3⟩ := hn
      have hn2 := sctEqL_eq hn2
      obtain ⟨v0, v1⟩ := need2 hg hvc
      simp only [Fm.holds, T.ev] at v0 v1
      obtain ⟨b, off, hv, hb, hk⟩ := hx
      refine ⟨_, w, χ, ?_, Step.pure hg ⟨b, off + (ti.ev χ.ρ).toNat * sz, rfl, hb, fun j hj => ?_⟩⟩
      · simp [execOp, ho, Instr.indexAt, hi, hv, asIntOf, run_und hu, Instr.sureAddr, v0, v1, run_sizeAt hsz, Addr.add_none]
      · have hjs : j < sz := by simp at hj; omega
        have hlt : (ti.ev χ.ρ).toNat < len := by omega
        have hl1 : (cs.take sz).length = sz := by
          have : sz ≤ len * sz := Nat.le_mul_of_pos_left _ (by omega)
          simp; omega
        have hb2 : (ti.ev χ.ρ).toNat * sz + j < len * sz := by
          have : ((ti.ev χ.ρ).toNat + 1) * sz ≤ len * sz := Nat.mul_le_mul_right _ hlt
          rw [Nat.succ_mul] at this; omega
        rw [Nat.add_assoc, hk _ (by omega)]
        simp only [List.getElem?_map]
        rw [← List.getElem?_take_of_lt hb2, hn2]
        rw [flatten_rep_get _ sz hl1 len _ j hlt hjs]
  · cases h

def absIndex (P : Program) (s : AS) (t : TypeId) (x ix : Operand) : Option OR :=
  match s.osv ix with
  | .int _ ti =>
    match P.underlying t, s.opd x with
    | some .string, .pv (.one (.str len)) =>
      some { av := .pv (.one (.int .u8 (.v s.nv))), ivs := [some (0, 255)], vcs := s.need (.le (.c 0) ti) ++ s.need (.lt ti len) }
    | some (.array len e), .pv (.agg l) =>
      match aggOf P e, sizeAt P e, ti with
      | some agg, some sz, .c z =>
        let n := bif agg then sz else 1
        bif ile 0 z && ile (z + 1) len && Nat.ble (z.toNat * sz + n) l.length then
          (match mkPV agg ((l.drop (z.toNat * sz)).take n) with
           | some p => some { av := .pv p }
           | none => none)
        else none
      | _, _, _ => none
    | _, _ => none
  | _ => none

theorem absIndex_ok {X : Ctx} {s : AS} {o : Oper} {t : TypeId} {x ix : Operand} {r : OR} (ho : o.op = .index t x ix) (h : absIndex X.P s t x ix = some r) : VOK X s o r := by
  intro χ a w hg hvc
  have hx := s.opd_ok hg x
  have hi := s.osv_ok hg ix
  unfold absIndex at h
  split at h
  rotate_left
  · cases h
  rename_i k ti eix
  rw [eix] at hi
  simp only [gSV] at hi
  split at h
  · rename_i len hu ex
    rw [ex] at hx
    cases h
    obtain ⟨str, hv, hl⟩ := hx
    obtain ⟨v0, v1⟩ := need2 hg hvc
    simp only [Fm.holds, T.ev] at v0 v1
    have hlt : (ti.ev χ.ρ).toNat < str.size := by omega
    refine ⟨.int .u8 ((str[(ti.ev χ.ρ).toNat]'hlt).toNat : Int), w, _, by simp [execOp, ho, Instr.index, hi, hv, asIntOf, run_und hu, v0, hlt],
      Step.new1 hg ((str[(ti.ev χ.ρ).toNat]'hlt).toNat : Int) (.inl rfl) ?_ ?_ (fun _ _ _ => trivial)⟩
    · intro ρ' _ hz
      show _ = Value.int _ _
      simp only [T.ev, Chi.withρ, hz]
    · intro lo hi' e'
      cases e'
      have h2 := (str[(ti.ev χ.ρ).toNat]'hlt).toNat_lt
      omega
  · rename_i len e l hu ex
    rw [ex] at hx
    obtain ⟨cs, hv, h2, h1⟩ := hx
    split at h
    rotate_left
    · cases h
    rename_i agg sz z hagg hsz
    dsimp only at h
    cases hn : (ile 0 z && ile (z + 1) len && Nat.ble (z.toNat * sz + (bif agg then sz else 1)) l.length) with
    | false => simp [hn] at h
    | true =>
      simp only [hn, cond_true] at h
      simp only [Bool.and_eq_true, ile_iff, Nat.ble_eq] at hn
      have hlen := h2.length
      have hn' : z.toNat * sz + (bif agg then sz else 1) ≤ cs.size := by have := hn.2; simpa [hlen] using this
      obtain ⟨v, hr, hvv⟩ := run_part (w := w) hagg hsz cs (z.toNat * sz) hn'
      simp only [T.ev] at hi
      split at h
      · rename_i p hp
        cases h
        have h1z : 0 ≤ z := hn.1.1
        have h2z : z < (len : Int) := by omega
        refine ⟨v, w, χ, by simp [execOp, ho, Instr.index, hi, hv, asIntOf, run_und hu, h1z, h2z, run_sizeAt hsz, hr], Step.pure hg (mkPV_ok hp ?_ ?_ hvv)⟩
        · rw [extract_toList]; exact all2_take _ (all2_drop _ h2)
        · rw [extract_toList]; intro y hy; exact h1 y (mem_take_drop hy)
      · cases h
  · cases h

end Go.Sx
