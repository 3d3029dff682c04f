/- Part H of a proof: helper lemmas; no conditions. -/
import Derived.Test.YtnnaehcmchndmaaGreatDoorG
import Derived.Laws.AppendOwn
import Derived.OwnWalk
import Derived.Deep.AppendLies

set_option linter.unusedSimpArgs false
set_option linter.unusedVariables false

namespace Go.Sx
open Go

inductive D where
  | int (k : IntKind) | bool | str | nil | seq (a b : D) | row (t : Nat) (e : D) | stop (l : List CT) | strs (t : Nat)
  deriving Inhabited

def D.size : D → Nat
  | .nil => 0
  | .seq a b => a.size + b.size
  | .stop l => l.length
  | _ => 1

def D.cts : D → List CT
  | .int k => [.int k k.min k.max]
  | .bool => [.bool]
  | .str => [.str]
  | .nil => []
  | .seq a b => a.cts ++ b.cts
  | .row t _ => [.slice (.base t)]
  | .stop l => l
  | .strs t => [.sliceB 100 (.base t)]

theorem D.cts_len : ∀ d : D, d.cts.length = d.size := by
  intro d
  induction d with
  | seq a b iha ihb => simp [D.cts, D.size, iha, ihb]
  | _ => rfl

def D.ok (P : Program) : D → Prop
  | .seq a b => a.ok P ∧ b.ok P
  | .row t e => tau P (.base t) = e.cts ∧ 1 ≤ e.size ∧ e.ok P
  | .strs t => tau P (.base t) = [.str]
  | _ => True

def D.bnd : D → Nat
  | .int _ => 1
  | .bool => 1
  | .str => 0
  | .nil => 0
  | .seq a b => a.bnd + b.bnd
  | .row _ e => 1 + e.bnd
  | .stop _ => 3000
  | .strs _ => 1

def D.num : D → Bool
  | .int _ => true
  | .bool => true
  | .str => false
  | .nil => false
  | .seq a b => a.num || b.num
  | .row _ _ => true
  | .stop _ => true
  | .strs _ => true

def D.mn : D → Nat
  | .int _ => 1
  | .bool => 1
  | .seq a b => a.mn + b.mn
  | .row _ _ => 1
  | .strs _ => 1
  | _ => 0

def D.fit : D → Nat → Prop
  | .seq a b, n => a.fit n ∧ b.fit (n + a.mn)
  | .row _ e, n => 199999 ≤ n ∨ e.fit (n + 1)
  | .stop _, _ => False
  | _, _ => True

theorem D.fit_mono : ∀ (d : D) {n m : Nat}, d.fit n → n ≤ m → d.fit m := by
  intro d
  induction d with
  | seq a b iha ihb => intro n m h hm; exact ⟨iha h.1 hm, ihb h.2 (by omega)⟩
  | row t e ih =>
    intro n m h hm
    rcases h with h | h
    · exact .inl (by omega)
    · exact .inr (ih h (by omega))
  | stop l => intro n m h _; exact h
  | _ => intro n m _ _; trivial

def D.whole : D → Bool
  | .seq a b => a.whole && b.whole
  | .row _ e => e.whole
  | .stop _ => false
  | _ => true

theorem D.whole_fit : ∀ (d : D), d.whole = true → ∀ n, d.fit n := by
  intro d
  induction d with
  | seq a b iha ihb => intro h n; simp only [D.whole, Bool.and_eq_true] at h; exact ⟨iha h.1 _, ihb h.2 _⟩
  | row t e ih => intro h n; exact .inr (ih h _)
  | stop l => intro h; cases h
  | _ => intro _ n; trivial

def D.rows : D → Bool
  | .seq a b => a.rows && b.rows
  | .row _ e => e.num && e.rows
  | .strs _ => false
  | _ => true

def D.co : D → Nat
  | .str => 1
  | .seq a b => a.co + b.co
  | .row _ e => 2 * e.co
  | .strs _ => 100
  | _ => 0

abbrev Seen := List Int × List ByteArray

def rowLoop (f : Nat → Seen → Seen) : Nat → Nat → Seen → Seen
  | 0, _, st => st
  | n + 1, i, st => if st.1.length < 200000 then rowLoop f n (i + 1) (f i st) else st

def cellInt : Option Value → Int
  | some (.int _ z) => IntKind.i64.wrap z
  | _ => 0

def cellBool : Option Value → Int
  | some (.bool true) => 1
  | _ => 0

def cellStr : Option Value → ByteArray
  | some (.string s) => s
  | _ => ByteArray.empty

def cellRow : Option Value → Nat × Nat × Nat
  | some (.slice (some a) l _) => (a.block, a.off, l)
  | some (.slice none l _) => (0, 0, l)
  | _ => (0, 0, 0)

def manyZ : List Int := List.replicate 3000 0
theorem manyZ_len : manyZ.length = 3000 := List.length_replicate

def seen (w : World) : D → Nat → Nat → Seen → Seen
  | .int _, b, o, st => (st.1 ++ [cellInt (w.cell? ⟨b, o, none⟩)], st.2)
  | .bool, b, o, st => (st.1 ++ [cellBool (w.cell? ⟨b, o, none⟩)], st.2)
  | .str, b, o, st => (st.1, st.2 ++ [cellStr (w.cell? ⟨b, o, none⟩)])
  | .nil, _, _, st => st
  | .seq x y, b, o, st => seen w y b (o + x.size) (seen w x b o st)
  | .row _ e, b, o, st =>
    let r := cellRow (w.cell? ⟨b, o, none⟩)
    rowLoop (fun i st => seen w e r.1 (r.2.1 + i * e.size) st) r.2.2 0 (st.1 ++ [(r.2.2 : Int)], st.2)
  | .stop _, _, _, st => (st.1 ++ manyZ, st.2)
  | .strs _, b, o, st =>
    let r := cellRow (w.cell? ⟨b, o, none⟩)
    rowLoop (fun i st => (st.1, st.2 ++ [cellStr (w.cell? ⟨r.1, r.2.1 + i * 1, none⟩)])) r.2.2 0 (st.1 ++ [(r.2.2 : Int)], st.2)

theorem rowLoop_len {f : Nat → Seen → Seen} {B : Nat} (hf : ∀ i st, st.1.length < 200000 → (f i st).1.length ≤ 200000 + B) : ∀ n i st, (rowLoop f n i st).1.length ≤ max st.1.length (200000 + B) := by
  intro n
  induction n with
  | zero => intro i st; simp only [rowLoop]; omega
  | succ n ih =>
    intro i st
    simp only [rowLoop]
    split
    · rename_i h
      have := ih (i + 1) (f i st)
      have := hf i st h
      omega
    · omega

theorem seen_len (w : World) : ∀ (d : D) (b o : Nat) (st : Seen), (seen w d b o st).1.length ≤ max st.1.length 200000 + d.bnd := by
  intro d
  induction d with
  | int k => intro b o st; simp [seen, D.bnd]; omega
  | bool => intro b o st; simp [seen, D.bnd]; omega
  | str => intro b o st; simp [seen, D.bnd]; omega
  | nil => intro b o st; simp [seen, D.bnd]; omega
  | stop l => intro b o st; simp only [seen, D.bnd, List.length_append, manyZ_len]; omega
  | strs t =>
    intro b o st
    simp only [seen, D.bnd]
    have h := rowLoop_len (f := fun i st => (st.1, st.2 ++ [cellStr (w.cell? ⟨(cellRow (w.cell? ⟨b, o, none⟩)).1, (cellRow (w.cell? ⟨b, o, none⟩)).2.1 + i * 1, none⟩)])) (B := 0)
      (fun i st hst => by show st.1.length ≤ _; omega)
      (cellRow (w.cell? ⟨b, o, none⟩)).2.2 0 (st.1 ++ [((cellRow (w.cell? ⟨b, o, none⟩)).2.2 : Int)], st.2)
    simp only [List.length_append, List.length_cons, List.length_nil] at h
    omega
  | seq x y ihx ihy =>
    intro b o st
    simp only [seen, D.bnd]
    have := ihy b (o + x.size) (seen w x b o st)
    have := ihx b o st
    omega
  | row t e ih =>
    intro b o st
    simp only [seen, D.bnd]
    have h := rowLoop_len (f := fun i st => seen w e (cellRow (w.cell? ⟨b, o, none⟩)).1 ((cellRow (w.cell? ⟨b, o, none⟩)).2.1 + i * e.size) st) (B := e.bnd)
      (fun i st hst => by have := ih (cellRow (w.cell? ⟨b, o, none⟩)).1 ((cellRow (w.cell? ⟨b, o, none⟩)).2.1 + i * e.size) st; omega)
      (cellRow (w.cell? ⟨b, o, none⟩)).2.2 0 (st.1 ++ [((cellRow (w.cell? ⟨b, o, none⟩)).2.2 : Int)], st.2)
    simp only [List.length_append, List.length_cons, List.length_nil] at h
    omega

theorem rowLoop_co {f : Nat → Seen → Seen} {C : Nat} (hf : ∀ i st, st.1.length + 1 ≤ (f i st).1.length ∧ (f i st).2.length ≤ st.2.length + C * ((f i st).1.length - st.1.length + 1)) : ∀ n i st,
    st.1.length ≤ (rowLoop f n i st).1.length ∧ (rowLoop f n i st).2.length ≤ st.2.length + 2 * C * ((rowLoop f n i st).1.length - st.1.length) := by
  intro n
  induction n with
  | zero => intro i st; simp [rowLoop]
  | succ n ih =>
    intro i st
    simp only [rowLoop]
    split
    · obtain ⟨h1, h2⟩ := ih (i + 1) (f i st)
      obtain ⟨h3, h4⟩ := hf i st
      refine ⟨by omega, ?_⟩
      generalize (rowLoop f n (i + 1) (f i st)).1.length = a at *
      generalize (rowLoop f n (i + 1) (f i st)).2.length = b at *
      generalize (f i st).1.length = c at *
      generalize (f i st).2.length = d at *
      have e1 : C * (c - st.1.length + 1) ≤ 2 * C * (c - st.1.length) := by
        have : c - st.1.length + 1 ≤ 2 * (c - st.1.length) := by omega
        calc C * (c - st.1.length + 1) ≤ C * (2 * (c - st.1.length)) := Nat.mul_le_mul_left _ this
          _ = 2 * C * (c - st.1.length) := by rw [Nat.mul_left_comm, Nat.mul_assoc]
      have e2 : 2 * C * (a - st.1.length) = 2 * C * (a - c) + 2 * C * (c - st.1.length) := by
        rw [← Nat.mul_add]; congr 1; omega
      omega
    · simp

theorem seen_co (w : World) : ∀ (d : D), d.rows = true → ∀ (b o : Nat) (st : Seen), st.1.length ≤ (seen w d b o st).1.length ∧ (d.num = true → st.1.length + 1 ≤ (seen w d b o st).1.length) ∧
    (seen w d b o st).2.length ≤ st.2.length + d.co * ((seen w d b o st).1.length - st.1.length + 1) := by
  intro d
  induction d with
  | int k => intro _ b o st; simp [seen, D.co]
  | bool => intro _ b o st; simp [seen, D.co]
  | str => intro _ b o st; simp [seen, D.co, D.num]
  | nil => intro _ b o st; simp [seen, D.co, D.num]
  | stop l => intro _ b o st; simp only [seen, D.co, List.length_append, manyZ_len]; exact ⟨by omega, fun _ => by omega, by omega⟩
  | strs t => intro h; cases h
  | seq x y ihx ihy =>
    intro hr b o st
    simp only [D.rows, Bool.and_eq_true] at hr
    simp only [seen, D.co, D.num, Bool.or_eq_true]
    obtain ⟨x1, x2, x3⟩ := ihx hr.1 b o st
    obtain ⟨y1, y2, y3⟩ := ihy hr.2 b (o + x.size) (seen w x b o st)
    generalize (seen w y b (o + x.size) (seen w x b o st)).1.length = a at *
    generalize (seen w y b (o + x.size) (seen w x b o st)).2.length = a2 at *
    generalize (seen w x b o st).1.length = c at *
    generalize (seen w x b o st).2.length = c2 at *
    refine ⟨by omega, fun h => ?_, ?_⟩
    · rcases h with h | h
      · have := x2 h; omega
      · have := y2 h; omega
    · have e1 : x.co * (c - st.1.length + 1) ≤ x.co * (a - st.1.length + 1) := Nat.mul_le_mul_left _ (by omega)
      have e2 : y.co * (a - c + 1) ≤ y.co * (a - st.1.length + 1) := Nat.mul_le_mul_left _ (by omega)
      rw [Nat.add_mul]; omega
  | row t e ih =>
    intro hr b o st
    simp only [D.rows, Bool.and_eq_true] at hr
    simp only [seen, D.co, D.num]
    have h := rowLoop_co (f := fun i st => seen w e (cellRow (w.cell? ⟨b, o, none⟩)).1 ((cellRow (w.cell? ⟨b, o, none⟩)).2.1 + i * e.size) st) (C := e.co)
      (fun i st => by
        obtain ⟨h1, h2, h3⟩ := ih hr.2 (cellRow (w.cell? ⟨b, o, none⟩)).1 ((cellRow (w.cell? ⟨b, o, none⟩)).2.1 + i * e.size) st
        exact ⟨h2 hr.1, h3⟩)
      (cellRow (w.cell? ⟨b, o, none⟩)).2.2 0 (st.1 ++ [((cellRow (w.cell? ⟨b, o, none⟩)).2.2 : Int)], st.2)
    simp only [List.length_append, List.length_cons, List.length_nil] at h
    obtain ⟨h1, h2⟩ := h
    refine ⟨by omega, fun _ => by omega, ?_⟩
    generalize (rowLoop (fun i st => seen w e (cellRow (w.cell? ⟨b, o, none⟩)).1 ((cellRow (w.cell? ⟨b, o, none⟩)).2.1 + i * e.size) st) (cellRow (w.cell? ⟨b, o, none⟩)).2.2 0 (st.1 ++ [((cellRow (w.cell? ⟨b, o, none⟩)).2.2 : Int)], st.2)).1.length = a at *
    have e1 : 2 * e.co * (a - (st.1.length + (0 + 1))) ≤ 2 * e.co * (a - st.1.length + 1) := Nat.mul_le_mul_left _ (by omega)
    omega

theorem seen_mn (w : World) : ∀ (d : D), d.rows = true → ∀ (b o : Nat) (st : Seen), st.1.length + d.mn ≤ (seen w d b o st).1.length := by
  intro d
  induction d with
  | seq x y ihx ihy =>
    intro hr b o st
    simp only [D.rows, Bool.and_eq_true] at hr
    have h1 := ihx hr.1 b o st
    have h2 := ihy hr.2 b (o + x.size) (seen w x b o st)
    simp only [seen, D.mn]
    omega
  | row t e _ => intro hr b o st; exact (seen_co w (.row t e) hr b o st).2.1 rfl
  | stop l => intro _ b o st; simp only [seen, D.mn, List.length_append, manyZ_len]; omega
  | strs t => intro h; cases h
  | _ => intro _ b o st; simp [seen, D.mn]

def RM : Nat := 1000001
theorem RM_eq : 1000000 + 1 = RM := rfl

structure Room (d : D) (ns : List Int) (ss : List ByteArray) : Prop where
  n : max ns.length 200000 + d.bnd ≤ 1000000
  s : ss.length + d.co * RM ≤ 1000000000
  fit : d.fit ns.length

theorem Room.fst {x y : D} {ns : List Int} {ss : List ByteArray} (h : Room (.seq x y) ns ss) : Room x ns ss := by
  obtain ⟨h1, h2, h3⟩ := h
  simp only [D.bnd, D.co] at h1 h2
  rw [Nat.add_mul] at h2
  exact ⟨by omega, Nat.le_trans (by rw [← Nat.add_assoc]; exact Nat.le_add_right _ _) h2, h3.1⟩

theorem Room.snd {x y : D} {ns : List Int} {ss : List ByteArray} (h : Room (.seq x y) ns ss) (hr : x.rows = true) (w : World) (b o : Nat) : Room y (seen w x b o (ns, ss)).1 (seen w x b o (ns, ss)).2 := by
  obtain ⟨h1, h2, h0⟩ := h
  simp only [D.bnd, D.co] at h1 h2
  rw [Nat.add_mul] at h2
  have l1 := seen_len w x b o (ns, ss)
  obtain ⟨c1, c2, c3⟩ := seen_co w x hr b o (ns, ss)
  simp only at l1 c1 c3
  refine ⟨by omega, ?_, y.fit_mono h0.2 (seen_mn w x hr b o (ns, ss))⟩
  have hm := RM_eq
  have : x.co * ((seen w x b o (ns, ss)).1.length - ns.length + 1) ≤ x.co * RM := Nat.mul_le_mul_left _ (by rw [← hm]; omega)
  generalize x.co * RM = u at *
  generalize y.co * RM = v at *
  omega

end Go.Sx

namespace Go.Sx
open Go

def At (χ : Chi) (d : D) (b o : Nat) : Prop := χ.A b ∧ ∀ i, i < d.size → χ.κ b (o + i) = d.cts[i]?

theorem At.fst {χ : Chi} {x y : D} {b o : Nat} (h : At χ (.seq x y) b o) : At χ x b o := by
  refine ⟨h.1, fun i hi => ?_⟩
  rw [h.2 i (by simp only [D.size]; omega)]
  simp only [D.cts]
  rw [List.getElem?_append_left (by rw [D.cts_len]; exact hi)]

theorem At.snd {χ : Chi} {x y : D} {b o : Nat} (h : At χ (.seq x y) b o) : At χ y b (o + x.size) := by
  refine ⟨h.1, fun i hi => ?_⟩
  have := h.2 (x.size + i) (by simp only [D.size]; omega)
  rw [Nat.add_assoc, this]
  simp only [D.cts]
  rw [List.getElem?_append_right (by rw [D.cts_len]; omega), D.cts_len]
  congr 1; omega

theorem At.cell {P : Program} {χ : Chi} {w : World} (hi : Inv P χ w) {d : D} {b o : Nat} (h : At χ d b o) {ct : CT} (hd : d.cts = [ct]) : ∃ v, w.cell? ⟨b, o, none⟩ = some v ∧ CellOK P χ χ.A ct v := by
  obtain ⟨cs, E, fz, hc, hk⟩ := hi.blockA b h.1
  have hsz : 0 < d.size := by rw [← D.cts_len, hd]; simp
  have hκ := h.2 0 hsz
  rw [hd] at hκ
  simp only [Nat.add_zero, List.getElem?_cons_zero] at hκ
  have := hk o
  rw [hκ] at this
  rw [cell?_blk hc]
  cases hv : cs[o]? with
  | none => rw [hv] at this; exact this.elim
  | some v => rw [hv] at this; exact ⟨v, rfl, this⟩

theorem At.int {P : Program} {χ : Chi} {w : World} (hi : Inv P χ w) {k : IntKind} {b o : Nat} (h : At χ (.int k) b o) : ∃ z, w.cell? ⟨b, o, none⟩ = some (.int k z) ∧ k.min ≤ z ∧ z ≤ k.max := by
  obtain ⟨v, hv, z, rfl, h1, h2⟩ := h.cell hi rfl
  exact ⟨z, hv, h1, h2⟩

theorem At.bool {P : Program} {χ : Chi} {w : World} (hi : Inv P χ w) {b o : Nat} (h : At χ .bool b o) : ∃ z, w.cell? ⟨b, o, none⟩ = some (.bool z) := by
  obtain ⟨v, hv, z, rfl⟩ := h.cell hi rfl
  exact ⟨z, hv⟩

theorem At.str {P : Program} {χ : Chi} {w : World} (hi : Inv P χ w) {b o : Nat} (h : At χ .str b o) : ∃ z, w.cell? ⟨b, o, none⟩ = some (.string z) ∧ z.size ≤ LB := by
  obtain ⟨v, hv, z, rfl, h1⟩ := h.cell hi rfl
  exact ⟨z, hv, h1⟩

theorem At.row {P : Program} {χ : Chi} {w : World} (hi : Inv P χ w) {t : Nat} {e : D} (he : tau P (.base t) = e.cts) {b o : Nat} (h : At χ (.row t e) b o) :
    ∃ ao l c, w.cell? ⟨b, o, none⟩ = some (.slice ao l c) ∧ l ≤ c ∧ l ≤ LB ∧ c ≤ CB ∧ ((ao = none ∧ l = 0) ∨ ∃ b' o', ao = some ⟨b', o', none⟩ ∧ χ.A b' ∧ ∀ i, i < c → At χ e b' (o' + i * e.size)) := by
  obtain ⟨v, hv, ao, l, c, rfl, h1, h2, h3, h4⟩ := h.cell hi rfl
  refine ⟨ao, l, c, hv, h1, h2, h3, ?_⟩
  cases ao with
  | none =>
    have h4 : c = 0 := h4
    exact .inl ⟨rfl, by omega⟩
  | some ad =>
    obtain ⟨b', o', sp⟩ := ad
    obtain ⟨q1, q2, q3⟩ := h4
    simp only at q1 q2 q3
    subst q1
    refine .inr ⟨b', o', rfl, q2, fun i hi => ⟨q2, fun j hj => ?_⟩⟩
    rw [he, D.cts_len] at q3
    have hlt : i * e.size + j < c * e.size := by
      have : (i + 1) * e.size ≤ c * e.size := Nat.mul_le_mul_right _ hi
      rw [Nat.succ_mul] at this; omega
    have := q3 (i * e.size + j) hlt
    rw [Nat.add_assoc, this, Nat.mul_comm, Nat.mul_add_mod, Nat.mod_eq_of_lt hj]

theorem At.strs {P : Program} {χ : Chi} {w : World} (hi : Inv P χ w) {t : Nat} (he : tau P (.base t) = [.str]) {b o : Nat} (h : At χ (.strs t) b o) :
    ∃ ao l c, w.cell? ⟨b, o, none⟩ = some (.slice ao l c) ∧ l ≤ c ∧ l ≤ 100 ∧ c ≤ CB ∧ ((ao = none ∧ l = 0) ∨ ∃ b' o', ao = some ⟨b', o', none⟩ ∧ χ.A b' ∧ ∀ i, i < c → At χ .str b' (o' + i * 1)) := by
  obtain ⟨v, hv, ao, l, c, rfl, h1, h2, h3, h4⟩ := h.cell hi rfl
  refine ⟨ao, l, c, hv, h1, h2, h3, ?_⟩
  cases ao with
  | none =>
    have h4 : c = 0 := h4
    exact .inl ⟨rfl, by omega⟩
  | some ad =>
    obtain ⟨b', o', sp⟩ := ad
    obtain ⟨q1, q2, q3⟩ := h4
    simp only at q1 q2 q3
    subst q1
    refine .inr ⟨b', o', rfl, q2, fun i hi => ⟨q2, fun j hj => ?_⟩⟩
    rw [he] at q3
    have hj0 : j = 0 := by have : j < 1 := hj; omega
    subst hj0
    have := q3 i (by simpa using hi)
    rw [Nat.mul_one, Nat.add_zero, this]
    simp [D.cts, Nat.mod_one]

def Rd (Z : Nat → Prop) (w : World) : D → Nat → Nat → Prop
  | .int k, b, o => Z b ∧ w.frozen? ⟨b, o, none⟩ = false ∧ ∃ z, w.cell? ⟨b, o, none⟩ = some (.int k z) ∧ k.min ≤ z ∧ z ≤ k.max
  | .bool, b, o => Z b ∧ w.frozen? ⟨b, o, none⟩ = false ∧ ∃ z, w.cell? ⟨b, o, none⟩ = some (.bool z)
  | .str, b, o => Z b ∧ w.frozen? ⟨b, o, none⟩ = false ∧ ∃ z, w.cell? ⟨b, o, none⟩ = some (.string z) ∧ z.size ≤ maxLen
  | .nil, _, _ => True
  | .seq x y, b, o => Rd Z w x b o ∧ Rd Z w y b (o + x.size)
  | .row _ e, b, o => Z b ∧ w.frozen? ⟨b, o, none⟩ = false ∧ ∃ ao l c, w.cell? ⟨b, o, none⟩ = some (.slice ao l c) ∧ l ≤ c ∧ c ≤ maxLen ∧
      (l = 0 ∨ ∃ b' o', ao = some ⟨b', o', none⟩ ∧ ∀ i, i < l → Rd Z w e b' (o' + i * e.size))
  | .stop _, _, _ => True
  | .strs _, b, o => Z b ∧ w.frozen? ⟨b, o, none⟩ = false ∧ ∃ ao l c, w.cell? ⟨b, o, none⟩ = some (.slice ao l c) ∧ l ≤ c ∧ c ≤ maxLen ∧ l ≤ 100 ∧
      (l = 0 ∨ ∃ b' o', ao = some ⟨b', o', none⟩ ∧ ∀ i, i < l → Z b' ∧ w.frozen? ⟨b', o' + i * 1, none⟩ = false ∧ ∃ z, w.cell? ⟨b', o' + i * 1, none⟩ = some (.string z) ∧ z.size ≤ maxLen)

def RowRd (Z : Nat → Prop) (w : World) (e : D) (ao : Option Addr) (l : Nat) : Prop :=
  l = 0 ∨ ∃ b' o', ao = some ⟨b', o', none⟩ ∧ ∀ i, i < l → Rd Z w e b' (o' + i * e.size)

section
variable {Z : Nat → Prop} {w : World} {b o : Nat}

theorem Rd.int {k : IntKind} (h : Rd Z w (.int k) b o) : ∃ z, w.cell? ⟨b, o, none⟩ = some (.int k z) ∧ k.min ≤ z ∧ z ≤ k.max := h.2.2
theorem Rd.bool (h : Rd Z w .bool b o) : ∃ z, w.cell? ⟨b, o, none⟩ = some (.bool z) := h.2.2
theorem Rd.str (h : Rd Z w .str b o) : ∃ z, w.cell? ⟨b, o, none⟩ = some (.string z) ∧ z.size ≤ maxLen := h.2.2
theorem Rd.row {t : Nat} {e : D} (h : Rd Z w (.row t e) b o) : ∃ ao l c, w.cell? ⟨b, o, none⟩ = some (.slice ao l c) ∧ l ≤ c ∧ c ≤ maxLen ∧ RowRd Z w e ao l := h.2.2
theorem Rd.strs {t : Nat} (h : Rd Z w (.strs t) b o) : ∃ ao l c, w.cell? ⟨b, o, none⟩ = some (.slice ao l c) ∧ l ≤ c ∧ c ≤ maxLen ∧ l ≤ 100 ∧ RowRd Z w .str ao l := h.2.2
theorem Rd.fst {x y : D} (h : Rd Z w (.seq x y) b o) : Rd Z w x b o := h.1
theorem Rd.snd {x y : D} (h : Rd Z w (.seq x y) b o) : Rd Z w y b (o + x.size) := h.2

end

theorem Rd.same {Z : Nat → Prop} {w w' : World} (hs : ∀ b, Z b → w'.heap[b]? = w.heap[b]?) : ∀ (d : D) {b o : Nat}, Rd Z w d b o → Rd Z w' d b o := by
  have hcell : ∀ {b} (o), Z b → w'.cell? ⟨b, o, none⟩ = w.cell? ⟨b, o, none⟩ := fun o hb => World.cell?_of_block (hs _ hb)
  have hfrz : ∀ {b} (o), Z b → w'.frozen? ⟨b, o, none⟩ = w.frozen? ⟨b, o, none⟩ := fun o hb => World.frozen?_of_block (hs _ hb)
  intro d
  induction d with
  | int k => intro b o h; simp only [Rd] at h ⊢; rw [hcell o h.1, hfrz o h.1]; exact h
  | bool => intro b o h; simp only [Rd] at h ⊢; rw [hcell o h.1, hfrz o h.1]; exact h
  | str => intro b o h; simp only [Rd] at h ⊢; rw [hcell o h.1, hfrz o h.1]; exact h
  | nil => intro b o h; trivial
  | stop l => intro b o h; trivial
  | strs t =>
    intro b o h
    obtain ⟨h1, h2, ao, l, c, h3, h4, h5, h7, h6⟩ := h
    refine ⟨h1, by rw [hfrz o h1]; exact h2, ao, l, c, by rw [hcell o h1]; exact h3, h4, h5, h7, ?_⟩
    rcases h6 with h6 | ⟨b', o', rfl, h6⟩
    · exact .inl h6
    · refine .inr ⟨b', o', rfl, fun i hi => ?_⟩
      obtain ⟨q1, q2, q3⟩ := h6 i hi
      exact ⟨q1, by rw [hfrz _ q1]; exact q2, by rw [hcell _ q1]; exact q3⟩
  | seq x y ihx ihy => intro b o h; exact ⟨ihx h.1, ihy h.2⟩
  | row t e ih =>
    intro b o h
    obtain ⟨h1, h2, ao, l, c, h3, h4, h5, h6⟩ := h
    refine ⟨h1, by rw [hfrz o h1]; exact h2, ao, l, c, by rw [hcell o h1]; exact h3, h4, h5, ?_⟩
    rcases h6 with h6 | ⟨b', o', rfl, h6⟩
    · exact .inl h6
    · exact .inr ⟨b', o', rfl, fun i hi => ih (h6 i hi)⟩

theorem RowRd.same {Z : Nat → Prop} {w w' : World} (hs : ∀ b, Z b → w'.heap[b]? = w.heap[b]?) {e : D} {ao : Option Addr} {l : Nat} (h : RowRd Z w e ao l) : RowRd Z w' e ao l := by
  rcases h with h | ⟨b', o', rfl, h⟩
  · exact .inl h
  · exact .inr ⟨b', o', rfl, fun i hi => (h i hi).same hs e⟩

theorem rowLoop_congr {f g : Nat → Seen → Seen} : ∀ {n i : Nat} {st : Seen}, (∀ j st, i ≤ j → j < i + n → f j st = g j st) → rowLoop f n i st = rowLoop g n i st := by
  intro n
  induction n with
  | zero => intro i st _; rfl
  | succ n ih =>
    intro i st h
    simp only [rowLoop]
    rw [h i st (Nat.le_refl _) (by omega), ih fun j st h1 h2 => h j st (by omega) (by omega)]

theorem Inv.same {P : Program} {χ : Chi} {w w' : World} (hi : Inv P χ w) (hs : ∀ b, χ.A b → w'.heap[b]? = w.heap[b]?) : Inv P χ w' where
  sub := hi.sub
  blockA := fun b hb => by obtain ⟨cs, E, fz, h1, h2⟩ := hi.blockA b hb; exact ⟨cs, E, fz, by rw [hs b hb]; exact h1, h2⟩
  blockF := fun b hb => by obtain ⟨cs, E, fz, h1, h2⟩ := hi.blockF b hb; exact ⟨cs, E, fz, by rw [hs b (hi.sub b hb)]; exact h1, h2⟩
  unfr := fun b hb cs E fz h => hi.unfr b hb cs E fz (by rw [← hs b (hi.sub b hb)]; exact h)

def InvF (P : Program) (χ : Chi) (w : World) : Prop := Inv P χ w ∧ ∀ b, χ.A b → χ.F b

theorem InvF.same {P : Program} {χ : Chi} {w w' : World} (hi : InvF P χ w) (hs : ∀ b, χ.A b → w'.heap[b]? = w.heap[b]?) : InvF P χ w' := ⟨hi.1.same hs, hi.2⟩

theorem InvF.frozen {P : Program} {χ : Chi} {w : World} (hi : InvF P χ w) {b o : Nat} {v : Value} (hb : χ.A b) (hc0 : w.cell? ⟨b, o, none⟩ = some v) : w.frozen? ⟨b, o, none⟩ = false := by
  obtain ⟨cs, E, fz, hc, _⟩ := hi.1.blockA b hb
  have h := hi.1.unfr b (hi.2 b hb) cs E fz hc
  rw [frozen?_blk hc]
  rw [cell?_blk hc] at hc0
  have := h o (Array.getElem?_eq_some_iff.1 hc0).1
  simp only [Bool.and_eq_false_iff, decide_eq_false_iff_not]
  omega

theorem seen_same {Z : Nat → Prop} {w w' : World} (hs : ∀ b, Z b → w'.heap[b]? = w.heap[b]?) : ∀ (d : D) {b o : Nat}, Rd Z w d b o → ∀ st, seen w' d b o st = seen w d b o st := by
  have hcell : ∀ {b} (o), Z b → w'.cell? ⟨b, o, none⟩ = w.cell? ⟨b, o, none⟩ := fun o hb => World.cell?_of_block (hs _ hb)
  intro d
  induction d with
  | int k => intro b o h st; simp only [seen, hcell o h.1]
  | bool => intro b o h st; simp only [seen, hcell o h.1]
  | str => intro b o h st; simp only [seen, hcell o h.1]
  | nil => intro b o h st; rfl
  | stop l => intro b o h st; rfl
  | strs t =>
    intro b o h st
    obtain ⟨h1, h2, ao, l, c, h3, h4, h5, _, h6⟩ := h
    simp only [seen, hcell o h1]
    rw [h3]
    rcases h6 with rfl | ⟨b', o', rfl, h6⟩
    · cases ao <;> rfl
    · simp only [cellRow]
      exact rowLoop_congr fun j st _ hj => by rw [hcell _ (h6 j (by omega)).1]
  | seq x y ihx ihy => intro b o h st; simp only [seen]; rw [ihx h.fst, ihy h.snd]
  | row t e ih =>
    intro b o h st
    obtain ⟨h1, h2, ao, l, c, h3, h4, h5, h6⟩ := h
    simp only [seen, hcell o h1]
    rw [h3]
    rcases h6 with rfl | ⟨b', o', rfl, h6⟩
    · cases ao <;> rfl
    · simp only [cellRow]
      exact rowLoop_congr fun j st _ hj => ih (h6 j (by omega)) st

theorem At.rd {P : Program} {χ : Chi} {w : World} (hi : InvF P χ w) : ∀ (d : D), d.ok P → ∀ {b o : Nat}, At χ d b o → Rd χ.A w d b o := by
  have hLB : LB ≤ maxLen := by unfold LB maxLen; omega
  have hCB : CB ≤ maxLen := by unfold CB maxLen; omega
  intro d
  induction d with
  | int k => intro _ b o h; obtain ⟨z, hz, h1, h2⟩ := h.int hi.1; exact ⟨h.1, hi.frozen h.1 hz, z, hz, h1, h2⟩
  | bool => intro _ b o h; obtain ⟨z, hz⟩ := h.bool hi.1; exact ⟨h.1, hi.frozen h.1 hz, z, hz⟩
  | str => intro _ b o h; obtain ⟨z, hz, h1⟩ := h.str hi.1; exact ⟨h.1, hi.frozen h.1 hz, z, hz, Nat.le_trans h1 hLB⟩
  | nil => intro _ b o h; trivial
  | stop l => intro _ b o h; trivial
  | strs t =>
    intro hok b o h
    obtain ⟨ao, l, c, hc, h1, h7, h2, h3⟩ := h.strs hi.1 hok
    refine ⟨h.1, hi.frozen h.1 hc, ao, l, c, hc, h1, Nat.le_trans h2 hCB, h7, ?_⟩
    rcases h3 with ⟨rfl, rfl⟩ | ⟨b', o', rfl, h4, h5⟩
    · exact .inl rfl
    · refine .inr ⟨b', o', rfl, fun i hi' => ?_⟩
      obtain ⟨z, hz, h1⟩ := (h5 i (by omega)).str hi.1
      exact ⟨h4, hi.frozen h4 hz, z, hz, Nat.le_trans h1 hLB⟩
  | seq x y ihx ihy => intro hok b o h; exact ⟨ihx hok.1 h.fst, ihy hok.2 h.snd⟩
  | row t e ih =>
    intro hok b o h
    obtain ⟨ao, l, c, hc, h1, _, h2, h3⟩ := h.row hi.1 hok.1
    refine ⟨h.1, hi.frozen h.1 hc, ao, l, c, hc, h1, Nat.le_trans h2 hCB, ?_⟩
    rcases h3 with ⟨rfl, rfl⟩ | ⟨b', o', rfl, h4, h5⟩
    · exact .inl rfl
    · exact .inr ⟨b', o', rfl, fun i hi' => ih hok.2.2 (h5 i (by omega))⟩

theorem setCell_self {w : World} {b o : Nat} {v : Value} (h : w.cell? ⟨b, o, none⟩ = some v) : w.setCell ⟨b, o, none⟩ v = w := by
  cases hb : w.heap[b]? with
  | none => simp [World.cell?, hb] at h
  | some ob =>
    cases ob with
    | cells cs E fz =>
      rw [cell?_blk hb] at h
      rw [setCell_blk hb]
      have e : cs.setIfInBounds o v = cs := by
        apply Array.ext_getElem?
        intro i
        simp only [Array.getElem?_setIfInBounds]
        by_cases hi : o = i
        · subst hi
          have := (Array.getElem?_eq_some_iff.1 h).1
          simp [this]
          rw [Array.getElem?_eq_getElem this] at h
          exact (Option.some.inj h).symm
        · simp [hi]
      rw [e]
      exact setBlk_self hb
    | _ => simp [World.cell?, hb] at h

structure EyeAt (T3 T9 : Nat) (w : World) (be oe base : Nat) (mk : Bool) (at_ : Int) (vn vs : Value) (ns : List Int) (ss : List ByteArray) : Prop where
  c0 : w.cell? ⟨be, oe, none⟩ = some vn
  c1 : w.cell? ⟨be, oe + 1, none⟩ = some vs
  c2 : w.cell? ⟨be, oe + 2, none⟩ = some (.bool mk)
  c3 : w.cell? ⟨be, oe + 3, none⟩ = some (.int .i64 at_)
  f0 : w.frozen? ⟨be, oe, none⟩ = false
  f1 : w.frozen? ⟨be, oe + 1, none⟩ = false
  f2 : w.frozen? ⟨be, oe + 2, none⟩ = false
  f3 : w.frozen? ⟨be, oe + 3, none⟩ = false
  on : w.ownsRow base T3 1 vn ns.length (ns.map (.int .i64))
  os : w.ownsRow base T9 1 vs ss.length (ss.map .string)
  ne : ∀ b, vn.ownBlock = some b → vs.ownBlock ≠ some b
  lt : be < base
  base : base ≤ w.heap.size

structure Keeps (w w' : World) (be oe base : Nat) : Prop where
  os : w'.os = w.os
  tape : w'.tape = w.tape
  output : w'.output = w.output
  size : w.heap.size ≤ w'.heap.size
  old : ∀ b, b < base → b ≠ be → w'.heap[b]? = w.heap[b]?
  cell : ∀ o, (o < oe ∨ oe + 4 ≤ o) → w'.cell? ⟨be, o, none⟩ = w.cell? ⟨be, o, none⟩
  frz : ∀ o, w'.frozen? ⟨be, o, none⟩ = w.frozen? ⟨be, o, none⟩

theorem Keeps.refl (w : World) (be oe base : Nat) : Keeps w w be oe base := ⟨rfl, rfl, rfl, Nat.le_refl _, fun _ _ _ => rfl, fun _ _ => rfl, fun _ => rfl⟩

theorem Keeps.trans {w w' w'' : World} {be oe base : Nat} (h : Keeps w w' be oe base) (k : Keeps w' w'' be oe base) : Keeps w w'' be oe base :=
  ⟨k.os.trans h.os, k.tape.trans h.tape, k.output.trans h.output, Nat.le_trans h.size k.size, fun b hb hn => (k.old b hb hn).trans (h.old b hb hn), fun o ho => (k.cell o ho).trans (h.cell o ho), fun o => (k.frz o).trans (h.frz o)⟩

def Far (Z : Nat → Prop) (be base : Nat) : Prop := ∀ b, Z b → b < base ∧ b ≠ be

theorem Keeps.same {w w' : World} {be oe base : Nat} (h : Keeps w w' be oe base) {Z : Nat → Prop} (hf : Far Z be base) : ∀ b, Z b → w'.heap[b]? = w.heap[b]? := fun b hb => h.old b (hf b hb).1 (hf b hb).2

def SeePost (T3 T9 : Nat) (w : World) (be oe base : Nat) (at_ : Int) (st : Seen) (e : Ending) (w' : World) : Prop :=
  e = .returned (.tuple #[]) ∧ Keeps w w' be oe base ∧ ∃ vn vs, EyeAt T3 T9 w' be oe base false at_ vn vs st.1 st.2

def SeeOK (P : Program) (T3 T9 f : Nat) (d : D) : Prop :=
  ∀ (w : World) (Z : Nat → Prop) (be oe base bx ox : Nat) (at_ : Int) (vn vs : Value) (ns : List Int) (ss : List ByteArray), Rd Z w d bx ox → Far Z be base → EyeAt T3 T9 w be oe base false at_ vn vs ns ss → Room d ns ss →
    Calls P f #[.pointer (some ⟨be, oe, none⟩), .pointer (some ⟨bx, ox, none⟩)] w (SeePost T3 T9 w be oe base at_ (seen w d bx ox (ns, ss)))

end Go.Sx

namespace Go.Sx
open Go

theorem EyeAt.bn {T3 T9 : Nat} {w : World} {be oe base : Nat} {mk : Bool} {at_ : Int} {vn vs : Value} {ns : List Int} {ss : List ByteArray} (h : EyeAt T3 T9 w be oe base mk at_ vn vs ns ss) : vn.ownBlock ≠ some be :=
  fun e => by have := (h.on.lt be e).1; have := h.lt; omega

theorem EyeAt.bs {T3 T9 : Nat} {w : World} {be oe base : Nat} {mk : Bool} {at_ : Int} {vn vs : Value} {ns : List Int} {ss : List ByteArray} (h : EyeAt T3 T9 w be oe base mk at_ vn vs ns ss) : vs.ownBlock ≠ some be :=
  fun e => by have := (h.os.lt be e).1; have := h.lt; omega

theorem cell_setCell_same {w : World} {a : Addr} {v u : Value} (h : w.cell? a = some u) (hs : a.spot = none) : (w.setCell a v).cell? a = some v := by
  obtain ⟨b, o, sp⟩ := a
  simp only at hs
  subst hs
  cases hb : w.heap[b]? with
  | none => simp [World.cell?, hb] at h
  | some ob =>
    cases ob with
    | cells cs E fz =>
      rw [cell?_blk hb] at h
      rw [setCell_blk hb, cell?_blk (setBlk_get (lt_of_blk hb) b ▸ by simp : (setBlk w b (.cells (cs.setIfInBounds o v) E fz)).heap[b]? = some (.cells (cs.setIfInBounds o v) E fz))]
      have : o < cs.size := (Array.getElem?_eq_some_iff.1 h).1
      simp [this]
    | _ => simp [World.cell?, hb] at h

theorem cell_setCell_off {w : World} {b o o' : Nat} {v u : Value} (h : w.cell? ⟨b, o, none⟩ = some u) (hne : o' ≠ o) : (w.setCell ⟨b, o, none⟩ v).cell? ⟨b, o', none⟩ = w.cell? ⟨b, o', none⟩ := by
  cases hb : w.heap[b]? with
  | none => simp [World.cell?, hb] at h
  | some ob =>
    cases ob with
    | cells cs E fz =>
      rw [setCell_blk hb, cell?_blk (setBlk_get (lt_of_blk hb) b ▸ by simp : (setBlk w b (.cells (cs.setIfInBounds o v) E fz)).heap[b]? = some (.cells (cs.setIfInBounds o v) E fz)), cell?_blk hb]
      simp [Ne.symm hne]
    | _ => simp [World.cell?, hb] at h

theorem frozen_setCell {w : World} {b o o' : Nat} {v u : Value} (h : w.cell? ⟨b, o, none⟩ = some u) : (w.setCell ⟨b, o, none⟩ v).frozen? ⟨b, o', none⟩ = w.frozen? ⟨b, o', none⟩ := by
  cases hb : w.heap[b]? with
  | none => simp [World.cell?, hb] at h
  | some ob =>
    cases ob with
    | cells cs E fz =>
      rw [setCell_blk hb, frozen?_blk (setBlk_get (lt_of_blk hb) b ▸ by simp : (setBlk w b (.cells (cs.setIfInBounds o v) E fz)).heap[b]? = some (.cells (cs.setIfInBounds o v) E fz)), frozen?_blk hb]
    | _ => simp [World.cell?, hb] at h

theorem heap_setCell_far {w : World} {b o k : Nat} {v : Value} (hne : k ≠ b) : (w.setCell ⟨b, o, none⟩ v).heap[k]? = w.heap[k]? := by
  simp only [World.setCell, Array.getElem?_modify]
  rw [if_neg (Ne.symm hne)]

theorem size_setCell (w : World) (a : Addr) (v : Value) : (w.setCell a v).heap.size = w.heap.size := by simp [World.setCell]

theorem ownsRow_setCell {w : World} {base e size : Nat} {v : Value} {n : Nat} {xs : List Value} (h : w.ownsRow base e size v n xs) {b o : Nat} {u : Value} (hne : v.ownBlock ≠ some b) : (w.setCell ⟨b, o, none⟩ u).ownsRow base e size v n xs := by
  refine ⟨h.1, ?_⟩
  rcases h.2 with hn | ⟨g, cap, cur, rfl, h1, h2, h3⟩
  · exact .inl hn
  · refine .inr ⟨g, cap, cur, rfl, h1, ?_, h3⟩
    rw [heap_setCell_far (fun e => hne (by rw [← e]; rfl))]; exact h2

section
variable {T3 T9 : Nat} {w w1 : World} {be oe base : Nat} {mk : Bool} {at_ : Int} {vn vs : Value} {ns : List Int} {ss : List ByteArray}

theorem EyeAt.grown (h : EyeAt T3 T9 w be oe base mk at_ vn vs ns ss) {row : Option Nat} (hg : w.grownBy w1 row) (hrow : row ≠ some be) (o : Nat) : w1.cell? ⟨be, o, none⟩ = w.cell? ⟨be, o, none⟩ ∧ w1.frozen? ⟨be, o, none⟩ = w.frozen? ⟨be, o, none⟩ := by
  have : w1.heap[be]? = w.heap[be]? := hg.block be (by have := h.lt; have := h.base; omega) (Ne.symm hrow)
  exact ⟨World.cell?_of_block this, World.frozen?_of_block this⟩

theorem EyeAt.addN (h : EyeAt T3 T9 w be oe base mk at_ vn vs ns ss) (hg : w.grownBy w1 vn.ownBlock) {gg cap : Nat} {z : Int}
    (ho : w1.ownsRow base T3 1 (.slice (some ⟨gg, 0, none⟩) (ns.length + 1) cap) (ns.length + 1) (ns.map (.int .i64) ++ [.int .i64 z])) (ha : vn.ownBlock = some gg ∨ w.heap.size ≤ gg) :
    EyeAt T3 T9 (w1.setCell ⟨be, oe, none⟩ (.slice (some ⟨gg, 0, none⟩) (ns.length + 1) cap)) be oe base mk at_ (.slice (some ⟨gg, 0, none⟩) (ns.length + 1) cap) vs (ns ++ [z]) ss ∧
    Keeps w (w1.setCell ⟨be, oe, none⟩ (.slice (some ⟨gg, 0, none⟩) (ns.length + 1) cap)) be oe base := by
  have hc := fun o => h.grown hg h.bn o
  have c0 : w1.cell? ⟨be, oe, none⟩ = some vn := (hc oe).1.trans h.c0
  have hgb : gg ≠ be := by
    rcases ha with ha | ha
    · exact fun e => h.bn (by rw [← e]; exact ha)
    · have := h.lt; have := h.base; omega
  have hos : w1.ownsRow base T9 1 vs ss.length (ss.map .string) := h.os.kept hg (by
    cases hv : vs.ownBlock with
    | none => exact .inl rfl
    | some b => exact .inr fun e => h.ne b e.symm hv)
  refine ⟨⟨cell_setCell_same c0 rfl, ?_, ?_, ?_, ?_, ?_, ?_, ?_, ?_, ?_, ?_, h.lt, ?_⟩, ⟨hg.os, hg.tape, hg.output, ?_, ?_, ?_, ?_⟩⟩
  · rw [cell_setCell_off c0 (by omega), (hc _).1]; exact h.c1
  · rw [cell_setCell_off c0 (by omega), (hc _).1]; exact h.c2
  · rw [cell_setCell_off c0 (by omega), (hc _).1]; exact h.c3
  · rw [frozen_setCell c0, (hc _).2]; exact h.f0
  · rw [frozen_setCell c0, (hc _).2]; exact h.f1
  · rw [frozen_setCell c0, (hc _).2]; exact h.f2
  · rw [frozen_setCell c0, (hc _).2]; exact h.f3
  · have := ownsRow_setCell ho (b := be) (o := oe) (u := .slice (some ⟨gg, 0, none⟩) (ns.length + 1) cap) (by simp [Value.ownBlock]; exact hgb)
    simpa using this
  · exact ownsRow_setCell hos h.bs
  · intro b hb
    simp only [Value.ownBlock, Option.some.injEq] at hb
    subst hb
    intro hv
    rcases ha with ha | ha
    · exact h.ne _ ha hv
    · have := (h.os.lt _ hv).2; omega
  · rw [size_setCell]; exact Nat.le_trans h.base hg.size
  · rw [size_setCell]; exact hg.size
  · intro b hb hne
    rw [heap_setCell_far hne]
    refine hg.block b (by have := h.base; omega) fun e => ?_
    have := (h.on.lt b e.symm).1
    omega
  · intro o ho
    rw [cell_setCell_off c0 (by omega)]; exact (hc o).1
  · intro o
    rw [frozen_setCell c0]; exact (hc o).2

theorem EyeAt.addS (h : EyeAt T3 T9 w be oe base mk at_ vn vs ns ss) (hg : w.grownBy w1 vs.ownBlock) {gg cap : Nat} {z : ByteArray}
    (ho : w1.ownsRow base T9 1 (.slice (some ⟨gg, 0, none⟩) (ss.length + 1) cap) (ss.length + 1) (ss.map .string ++ [.string z])) (ha : vs.ownBlock = some gg ∨ w.heap.size ≤ gg) :
    EyeAt T3 T9 (w1.setCell ⟨be, oe + 1, none⟩ (.slice (some ⟨gg, 0, none⟩) (ss.length + 1) cap)) be oe base mk at_ vn (.slice (some ⟨gg, 0, none⟩) (ss.length + 1) cap) ns (ss ++ [z]) ∧
    Keeps w (w1.setCell ⟨be, oe + 1, none⟩ (.slice (some ⟨gg, 0, none⟩) (ss.length + 1) cap)) be oe base := by
  have hc := fun o => h.grown hg h.bs o
  have c1 : w1.cell? ⟨be, oe + 1, none⟩ = some vs := (hc (oe + 1)).1.trans h.c1
  have hgb : gg ≠ be := by
    rcases ha with ha | ha
    · exact fun e => h.bs (by rw [← e]; exact ha)
    · have := h.lt; have := h.base; omega
  have hon : w1.ownsRow base T3 1 vn ns.length (ns.map (.int .i64)) := h.on.kept hg (by
    cases hv : vn.ownBlock with
    | none => exact .inl rfl
    | some b => exact .inr fun e => h.ne b hv e.symm)
  refine ⟨⟨?_, cell_setCell_same c1 rfl, ?_, ?_, ?_, ?_, ?_, ?_, ?_, ?_, ?_, h.lt, ?_⟩, ⟨hg.os, hg.tape, hg.output, ?_, ?_, ?_, ?_⟩⟩
  · rw [cell_setCell_off c1 (by omega), (hc _).1]; exact h.c0
  · rw [cell_setCell_off c1 (by omega), (hc _).1]; exact h.c2
  · rw [cell_setCell_off c1 (by omega), (hc _).1]; exact h.c3
  · rw [frozen_setCell c1, (hc _).2]; exact h.f0
  · rw [frozen_setCell c1, (hc _).2]; exact h.f1
  · rw [frozen_setCell c1, (hc _).2]; exact h.f2
  · rw [frozen_setCell c1, (hc _).2]; exact h.f3
  · exact ownsRow_setCell hon h.bn
  · have := ownsRow_setCell ho (b := be) (o := oe + 1) (u := .slice (some ⟨gg, 0, none⟩) (ss.length + 1) cap) (by simp [Value.ownBlock]; exact hgb)
    simpa using this
  · intro b hb
    simp only [Value.ownBlock, ne_eq, Option.some.injEq]
    intro hv
    subst hv
    rcases ha with ha | ha
    · exact h.ne _ hb ha
    · have := (h.on.lt _ hb).2; omega
  · rw [size_setCell]; exact Nat.le_trans h.base hg.size
  · rw [size_setCell]; exact hg.size
  · intro b hb hne
    rw [heap_setCell_far hne]
    refine hg.block b (by have := h.base; omega) fun e => ?_
    have := (h.os.lt b e.symm).1
    omega
  · intro o ho
    rw [cell_setCell_off c1 (by omega)]; exact (hc o).1
  · intro o
    rw [frozen_setCell c1]; exact (hc o).2

end

theorem grown_past {w w1 : World} {o : Obj} {row : Option Nat} (h : (w.alloc o).drew.grownBy w1 row) : w.grownBy w1 row where
  os := h.os
  tape := h.tape
  output := h.output
  size := Nat.le_trans (by show w.heap.size ≤ (w.heap.push o).size; simp) h.size
  block := fun k hk hne => (h.block k (by show k < (w.heap.push o).size; simp; omega) hne).trans (by
    show (w.alloc o).heap[k]? = _
    rw [alloc_get, if_neg (by omega)])

theorem grown_past0 {w w1 : World} {o : Obj} {row : Option Nat} (h : (w.alloc o).grownBy w1 row) : w.grownBy w1 row where
  os := h.os
  tape := h.tape
  output := h.output
  size := Nat.le_trans (by show w.heap.size ≤ (w.heap.push o).size; simp) h.size
  block := fun k hk hne => (h.block k (by show k < (w.heap.push o).size; simp; omega) hne).trans (by rw [alloc_get, if_neg (by omega)])

theorem SeePost.int {T3 T9 : Nat} {w w1 : World} {be oe base bx ox : Nat} {at_ : Int} {vn vs : Value} {ns : List Int} {ss : List ByteArray} (h : EyeAt T3 T9 w be oe base false at_ vn vs ns ss) {o : Obj} (hg : (w.alloc o).drew.grownBy w1 vn.ownBlock) {gg cap : Nat} {z z' : Int} {k : IntKind}
    (hx : w.cell? ⟨bx, ox, none⟩ = some (.int k z)) (hz : IntKind.i64.wrap z = z')
    (ho : w1.ownsRow base T3 1 (.slice (some ⟨gg, 0, none⟩) (ns.length + 1) cap) (ns.length + 1) (ns.map (.int .i64) ++ [.int .i64 z'])) (ha : vn.ownBlock = some gg ∨ gg = w.heap.size + 1) :
    SeePost T3 T9 w be oe base at_ (seen w (.int k) bx ox (ns, ss)) (.returned (.tuple #[])) (w1.setCell ⟨be, oe, none⟩ (.slice (some ⟨gg, 0, none⟩) (ns.length + 1) cap)) := by
  obtain ⟨h1, h2⟩ := h.addN (grown_past hg) ho (ha.imp id fun e => by omega)
  have e : seen w (.int k) bx ox (ns, ss) = (ns ++ [z'], ss) := by simp only [seen, hx, cellInt, hz]
  rw [e]
  exact ⟨rfl, h2, _, _, h1⟩

theorem SeePost.bool {T3 T9 : Nat} {w w1 : World} {be oe base bx ox : Nat} {at_ : Int} {vn vs : Value} {ns : List Int} {ss : List ByteArray} (h : EyeAt T3 T9 w be oe base false at_ vn vs ns ss) (hg : w.grownBy w1 vn.ownBlock) {gg cap : Nat} {z : Bool} {z' : Int}
    (hx : w.cell? ⟨bx, ox, none⟩ = some (.bool z)) (hz : z' = if z then 1 else 0)
    (ho : w1.ownsRow base T3 1 (.slice (some ⟨gg, 0, none⟩) (ns.length + 1) cap) (ns.length + 1) (ns.map (.int .i64) ++ [.int .i64 z'])) (ha : vn.ownBlock = some gg ∨ w.heap.size ≤ gg) :
    SeePost T3 T9 w be oe base at_ (seen w .bool bx ox (ns, ss)) (.returned (.tuple #[])) (w1.setCell ⟨be, oe, none⟩ (.slice (some ⟨gg, 0, none⟩) (ns.length + 1) cap)) := by
  obtain ⟨h1, h2⟩ := h.addN hg ho ha
  have e : seen w .bool bx ox (ns, ss) = (ns ++ [z'], ss) := by subst hz; cases z <;> simp only [seen, hx, cellBool] <;> rfl
  rw [e]
  exact ⟨rfl, h2, _, _, h1⟩

theorem SeePost.str {T3 T9 : Nat} {w w1 : World} {be oe base bx ox : Nat} {at_ : Int} {vn vs : Value} {ns : List Int} {ss : List ByteArray} (h : EyeAt T3 T9 w be oe base false at_ vn vs ns ss) (hg : w.grownBy w1 vs.ownBlock) {gg cap : Nat} {z : ByteArray}
    (hx : w.cell? ⟨bx, ox, none⟩ = some (.string z))
    (ho : w1.ownsRow base T9 1 (.slice (some ⟨gg, 0, none⟩) (ss.length + 1) cap) (ss.length + 1) (ss.map .string ++ [.string z])) (ha : vs.ownBlock = some gg ∨ w.heap.size ≤ gg) :
    SeePost T3 T9 w be oe base at_ (seen w .str bx ox (ns, ss)) (.returned (.tuple #[])) (w1.setCell ⟨be, oe + 1, none⟩ (.slice (some ⟨gg, 0, none⟩) (ss.length + 1) cap)) := by
  obtain ⟨h1, h2⟩ := h.addS hg ho ha
  have e : seen w .str bx ox (ns, ss) = (ns, ss ++ [z]) := by simp only [seen, hx, cellStr]
  rw [e]
  exact ⟨rfl, h2, _, _, h1⟩

end Go.Sx

namespace Go.Sx
open Go

structure Fr (a : Act) (n be oe bx ox : Nat) : Prop where
  size : a.tmps.size = n
  defers : a.defers = []
  e : a.tmps.getD 0 undef = .pointer (some ⟨be, oe, none⟩)
  x : a.tmps.getD 1 undef = .pointer (some ⟨bx, ox, none⟩)

theorem eval_put {a : Act} {d t : Nat} {v : Value} : (a.put (some d) v).eval (.tmp t) = if d = t ∧ t < a.tmps.size then v else a.eval (.tmp t) := by
  simp only [Act.eval, Act.put, Array.getD_eq_getD_getElem?, Array.getElem?_setIfInBounds]
  by_cases h : d = t
  · subst h
    by_cases h2 : d < a.tmps.size
    · simp [h2]
    · simp [h2]
  · simp [h]

theorem put_size (a : Act) (dst : Option Tmp) (v : Value) : (a.put dst v).tmps.size = a.tmps.size := by
  cases dst <;> simp [Act.put]

theorem Fr.put {a : Act} {n be oe bx ox : Nat} (h : Fr a n be oe bx ox) {dst : Option Tmp} (hd : ∀ d, dst = some d → 2 ≤ d) (v : Value) : Fr (a.put dst v) n be oe bx ox := by
  cases dst with
  | none => exact h
  | some d =>
    have h2 := hd d rfl
    refine ⟨by rw [put_size]; exact h.size, by rw [Act.put_defers]; exact h.defers, ?_, ?_⟩
    · simp only [Act.put, getD_set]; rw [if_neg (fun hh => by rw [hh.1] at h2; exact absurd h2 (by decide))]; exact h.e
    · simp only [Act.put, getD_set]; rw [if_neg (fun hh => by rw [hh.1] at h2; exact absurd h2 (by decide))]; exact h.x

def SeeCode (P : Program) (T3 T9 n : Nat) (c : Code) (d : D) (off : Nat) : Prop :=
  ∀ (Q : Exit → Act → World → Prop) (a : Act) (w : World) (Z : Nat → Prop) (be oe base bx ox : Nat) (at_ : Int) (vn vs : Value) (ns : List Int) (ss : List ByteArray), Fr a n be oe bx ox → Rd Z w d bx (ox + off) → Far Z be base →
    EyeAt T3 T9 w be oe base false at_ vn vs ns ss → Room d ns ss →
    (∀ a' w', Fr a' n be oe bx ox → Keeps w w' be oe base → (∃ vn vs, EyeAt T3 T9 w' be oe base false at_ vn vs (seen w d bx (ox + off) (ns, ss)).1 (seen w d bx (ox + off) (ns, ss)).2) → Q .normal a' w') → c.wp P Q a w

theorem SeeCode.seq {P : Program} {T3 T9 n : Nat} {c1 c2 : Code} {d1 d2 : D} {off : Nat} (hr : d1.rows = true) (h1 : SeeCode P T3 T9 n c1 d1 off) (h2 : SeeCode P T3 T9 n c2 d2 (off + d1.size)) : SeeCode P T3 T9 n (.seq c1 c2) (.seq d1 d2) off := by
  intro Q a w Z be oe base bx ox at_ vn vs ns ss hfr hat hfar he hroom hQ
  refine wp_seq (h1 _ a w Z be oe base bx ox at_ vn vs ns ss hfr hat.fst hfar he hroom.fst ?_)
  rintro a' w' hfr' hk ⟨vn', vs', he'⟩
  have hsame := hk.same hfar
  have hat2 : Rd Z w d2 bx (ox + (off + d1.size)) := by rw [← Nat.add_assoc]; exact hat.snd
  have hs2 := seen_same hsame d2 hat2
  refine h2 Q a' w' Z be oe base bx ox at_ vn' vs' _ _ hfr' (hat2.same hsame d2) hfar he' (hroom.snd hr w bx (ox + off)) ?_
  rintro a'' w'' hfr'' hk' ⟨vn'', vs'', he''⟩
  refine hQ a'' w'' hfr'' (hk.trans hk') ⟨vn'', vs'', ?_⟩
  rw [hs2] at he''
  simp only [seen]
  rw [Nat.add_assoc]
  exact he''

theorem wpOps5 {P : Program} {Q : Exit → Act → World → Prop} {o0 o1 o2 o3 o4 : Oper} {a : Act} {w : World} (h0 : o0.guard = none) (h1 : o1.guard = none) (h2 : o2.guard = none) (h3 : o3.guard = none) (h4 : o4.guard = none)
    (h : o0.wp P a w (fun a w => o1.wp P a w (fun a w => o2.wp P a w (fun a w => o3.wp P a w (fun a w => o4.wp P a w (Q .normal) Q) Q) Q) Q) Q) : wpOps P #[o0, o1, o2, o3, o4] Q (List.range (#[o0, o1, o2, o3, o4] : Array Oper).size) a w := by
  have e : List.range (#[o0, o1, o2, o3, o4] : Array Oper).size = [0, 1, 2, 3, 4] := rfl
  rw [e]
  simp only [wpOps, List.getElem?_toArray, List.getElem?_cons_zero, List.getElem?_cons_succ, Region.wanted, h0, h1, h2, h3, h4, if_true]
  refine .inl (Oper.wp_mono (fun a w k => ?_) h)
  refine .inl (Oper.wp_mono (fun a w k => ?_) k)
  refine .inl (Oper.wp_mono (fun a w k => ?_) k)
  refine .inl (Oper.wp_mono (fun a w k => ?_) k)
  exact .inl k

theorem wpOps2 {P : Program} {Q : Exit → Act → World → Prop} {o0 o1 : Oper} {a : Act} {w : World} (h0 : o0.guard = none) (h1 : o1.guard = none)
    (h : o0.wp P a w (fun a w => o1.wp P a w (Q .normal) Q) Q) : wpOps P #[o0, o1] Q (List.range (#[o0, o1] : Array Oper).size) a w := by
  have e : List.range (#[o0, o1] : Array Oper).size = [0, 1] := rfl
  rw [e]
  simp only [wpOps, List.getElem?_toArray, List.getElem?_cons_zero, List.getElem?_cons_succ, Region.wanted, h0, h1, if_true]
  refine .inl (Oper.wp_mono (fun a w k => ?_) h)
  exact .inl k

theorem wp_move {P : Program} {o : Oper} {x : Operand} {a : Act} {w : World} {K : Act → World → Prop} {Q : Exit → Act → World → Prop} (ho : o.op = .move x) (h : K (a.put o.dst (a.eval x)) w) : o.wp P a w K Q :=
  Oper.wp_val (v := a.eval x) (by simp [execOp, ho]) h

theorem wp_nilCheck {P : Program} {o : Oper} {x : Operand} {a : Act} {w : World} {K : Act → World → Prop} {Q : Exit → Act → World → Prop} (ho : o.op = .nilCheck x) {ad : Addr} (hx : a.eval x = .pointer (some ad)) (h : K (a.put o.dst (.pointer (some ad))) w) : o.wp P a w K Q :=
  Oper.wp_val (v := .pointer (some ad)) (by simp [execOp, ho, hx]) h

theorem wp_fieldAddr {P : Program} {o : Oper} {x : Operand} {T i : Nat} {a : Act} {w : World} {K : Act → World → Prop} {Q : Exit → Act → World → Prop} (ho : o.op = .fieldAddr T x i) {fs : Array Field} (hu : P.underlying T = some (.struct fs)) {f : Field} (hf : fs[i]? = some f)
    {sz : Nat} (hsz : sizeAt P f.type = some (sz + 1)) {b off : Nat} (hx : a.eval x = .pointer (some ⟨b, off, none⟩)) (h : K (a.put o.dst (.pointer (some ⟨b, off + f.offset, none⟩))) w) : o.wp P a w K Q :=
  Oper.wp_val (v := .pointer (some ⟨b, off + f.offset, none⟩)) (by simp [execOp, ho, Instr.fieldAt, Instr.sureAddr, run_und hu, hf, hx, fieldPlace, run_sizeAt hsz, Addr.add_none]) h

theorem wp_callF {P : Program} {o : Oper} {c : Call} {g : Nat} {a : Act} {w : World} {K : Act → World → Prop} {Q : Exit → Act → World → Prop} (ho : o.op = .call c) (hc : c.callee = .value (.func g)) {fn : Func} (hfn : P.funcs[g]? = some fn) (hb : fn.body.isSome = true)
    (hname : (fn.name == "runtime.NumGoroutine") = false) {vs : Array Value} (hargs : c.args.map a.eval = vs) (h : Calls P g vs w fun e w' => ∃ v, e = .returned v ∧ K (a.put o.dst v) w') : o.wp P a w K Q := by
  obtain ⟨body, hb⟩ := Option.isSome_iff_exists.1 hb
  have hr := run_callF (P := P) (a := a) (w := w) (vs := #[]) ho hc rfl hfn hb hname
  rw [hargs, Array.append_empty] at hr
  exact Oper.wp_enter hr h

structure Slots (n s1 s2 s3 s4 : Nat) : Prop where
  h1 : 2 ≤ s1
  h2 : 2 ≤ s2
  h3 : 2 ≤ s3
  h4 : 2 ≤ s4
  l1 : s1 < n
  l2 : s2 < n
  l3 : s3 < n
  l4 : s4 < n
  d12 : s1 ≠ s2
  d13 : s1 ≠ s3
  d14 : s1 ≠ s4

def slotsB (n s1 s2 s3 s4 : Nat) : Bool := Nat.ble 2 s1 && Nat.ble 2 s2 && Nat.ble 2 s3 && Nat.ble 2 s4 && Nat.blt s1 n && Nat.blt s2 n && Nat.blt s3 n && Nat.blt s4 n && !(Nat.beq s1 s2) && !(Nat.beq s1 s3) && !(Nat.beq s1 s4)

theorem slots_of {n s1 s2 s3 s4 : Nat} (h : slotsB n s1 s2 s3 s4 = true) : Slots n s1 s2 s3 s4 := by
  simp only [slotsB, Bool.and_eq_true, Nat.ble_eq, Nat.blt_eq, Bool.not_eq_true'] at h
  have ne : ∀ {x y : Nat}, Nat.beq x y = false → x ≠ y := fun h e => by rw [e, Nat.beq_refl] at h; cases h
  obtain ⟨⟨⟨⟨⟨⟨⟨⟨⟨⟨p1, p2⟩, p3⟩, p4⟩, p5⟩, p6⟩, p7⟩, p8⟩, p9⟩, p10⟩, p11⟩ := h
  exact ⟨p1, p2, p3, p4, p5, p6, p7, p8, ne p9, ne p10, ne p11⟩

theorem SeeCode.field {P : Program} {T3 T9 n id s1 s2 s3 s4 T i g : Nat} {dst : Option Tmp} {y1 y2 y3 y4 y5 : Nat} {p1 p2 p3 p4 p5 : String} {f1 f2 f3 f4 f5 : Array Edge} {tys : Array Nat} {d : D} {fs : Array Field} {f : Field} {sz : Nat} {fn : Func}
    (hsl : slotsB n s1 s2 s3 s4 = true) (hdst : ∀ x, dst = some x → 2 ≤ x) (hu : P.underlying T = some (.struct fs)) (hf : fs[i]? = some f) (hsz : sizeAt P f.type = some (sz + 1))
    (hfn : P.funcs[g]? = some fn) (hb : fn.body.isSome = true) (hname : (fn.name == "runtime.NumGoroutine") = false) (hsee : SeeOK P T3 T9 g d) :
    SeeCode P T3 T9 n (.region id #[⟨some s1, .move (.tmp 0), y1, p1, f1, none⟩, ⟨some s2, .move (.tmp 1), y2, p2, f2, none⟩, ⟨some s3, .nilCheck (.tmp s2), y3, p3, f3, none⟩, ⟨some s4, .fieldAddr T (.tmp s3) i, y4, p4, f4, none⟩,
      ⟨dst, .call ⟨.value (.func g), #[.tmp s1, .tmp s4], tys⟩, y5, p5, f5, none⟩] false) d f.offset := by
  intro Q a w Z be oe base bx ox at_ vn vs ns ss hfr hat hfar he hroom hQ
  obtain ⟨h1, h2, h3, h4, l1, l2, l3, l4, d12, d13, d14⟩ := slots_of hsl
  have hz := hfr.size
  refine wp_region (wpOps5 rfl rfl rfl rfl rfl ?_)
  refine wp_move rfl (wp_move rfl (wp_nilCheck (ad := ⟨bx, ox, none⟩) rfl ?_ (wp_fieldAddr (b := bx) (off := ox) rfl hu hf hsz ?_ (wp_callF rfl rfl hfn hb hname (vs := #[.pointer (some ⟨be, oe, none⟩), .pointer (some ⟨bx, ox + f.offset, none⟩)]) ?_ ?_))))
  · rw [eval_put, if_pos ⟨rfl, by simp only [put_size]; omega⟩]
    rw [eval_put, if_neg (by omega)]; exact hfr.x
  · rw [eval_put, if_pos ⟨rfl, by simp only [put_size]; omega⟩]
  · simp only [List.map_toArray, List.map_cons, List.map_nil]
    congr 1
    rw [eval_put, if_neg (by omega), eval_put, if_neg (by omega), eval_put, if_neg (by omega), eval_put, if_pos ⟨rfl, by omega⟩, eval_put, if_pos ⟨rfl, by simp only [put_size]; omega⟩]
    rw [show a.eval (.tmp 0) = _ from hfr.e]
  · refine (hsee w Z be oe base bx (ox + f.offset) at_ vn vs ns ss hat hfar he hroom).mono ?_
    rintro e w' ⟨rfl, hk, hx⟩
    refine ⟨_, rfl, hQ _ _ ?_ hk hx⟩
    exact (((((hfr.put (fun d h => by cases h; exact h1) _).put (fun d h => by cases h; exact h2) _).put (fun d h => by cases h; exact h3) _).put (fun d h => by cases h; exact h4) _).put hdst _)

def fieldAtP (P : Program) (T i off : Nat) : Bool :=
  match P.underlying T with
  | some (.struct fs) =>
    match fs[i]? with
    | some f => Nat.beq f.offset off && (match sizeAt P f.type with | some (_ + 1) => true | _ => false)
    | none => false
  | _ => false

theorem fieldAtP_ok {P : Program} {T i off : Nat} (h : fieldAtP P T i off = true) : ∃ fs f sz, P.underlying T = some (.struct fs) ∧ fs[i]? = some f ∧ f.offset = off ∧ sizeAt P f.type = some (sz + 1) := by
  unfold fieldAtP at h
  split at h
  · rename_i fs hu
    split at h
    · rename_i f hf
      simp only [Bool.and_eq_true] at h
      obtain ⟨h1, h2⟩ := h
      split at h2
      · rename_i sz hsz
        exact ⟨fs, f, sz, hu, hf, by simpa using h1, hsz⟩
      · cases h2
    · cases h
  · cases h

def callable (P : Program) (g : Nat) : Bool :=
  match P.funcs[g]? with
  | some fn => fn.body.isSome && !(fn.name == "runtime.NumGoroutine")
  | none => false

theorem callable_ok {P : Program} {g : Nat} (h : callable P g = true) : ∃ fn, P.funcs[g]? = some fn ∧ fn.body.isSome = true ∧ (fn.name == "runtime.NumGoroutine") = false := by
  unfold callable at h
  split at h
  · rename_i fn hf
    simp only [Bool.and_eq_true, Bool.not_eq_true'] at h
    exact ⟨fn, hf, h.1, h.2⟩
  · cases h

theorem SeeCode.fieldB {P : Program} {T3 T9 n id s1 s2 s3 s4 T i g off : Nat} {dst : Option Tmp} {y1 y2 y3 y4 y5 : Nat} {p1 p2 p3 p4 p5 : String} {f1 f2 f3 f4 f5 : Array Edge} {tys : Array Nat} {d : D}
    (hsee : SeeOK P T3 T9 g d) (hsl : slotsB n s1 s2 s3 s4 = true) (hdst : ∀ x, dst = some x → 2 ≤ x) (hf : fieldAtP P T i off = true) (hc : callable P g = true) :
    SeeCode P T3 T9 n (.region id #[⟨some s1, .move (.tmp 0), y1, p1, f1, none⟩, ⟨some s2, .move (.tmp 1), y2, p2, f2, none⟩, ⟨some s3, .nilCheck (.tmp s2), y3, p3, f3, none⟩, ⟨some s4, .fieldAddr T (.tmp s3) i, y4, p4, f4, none⟩,
      ⟨dst, .call ⟨.value (.func g), #[.tmp s1, .tmp s4], tys⟩, y5, p5, f5, none⟩] false) d off := by
  obtain ⟨fs, f, sz, h1, h2, rfl, h4⟩ := fieldAtP_ok hf
  obtain ⟨fn, k1, k2, k3⟩ := callable_ok hc
  exact SeeCode.field hsl hdst h1 h2 h4 k1 k2 k3 hsee

theorem SeeCode.handed {P : Program} {T3 T9 n id s1 g : Nat} {dst : Option Tmp} {y1 y5 : Nat} {p1 p5 : String} {f1 f5 : Array Edge} {tys : Array Nat} {d : D} {fn : Func}
    (hs1 : (Nat.ble 2 s1 && Nat.blt s1 n) = true) (hdst : ∀ x, dst = some x → 2 ≤ x) (hfn : P.funcs[g]? = some fn) (hb : fn.body.isSome = true) (hname : (fn.name == "runtime.NumGoroutine") = false) (hsee : SeeOK P T3 T9 g d) :
    SeeCode P T3 T9 n (.region id #[⟨some s1, .move (.tmp 0), y1, p1, f1, none⟩, ⟨dst, .call ⟨.value (.func g), #[.tmp s1, .tmp 1], tys⟩, y5, p5, f5, none⟩] false) d 0 := by
  intro Q a w Z be oe base bx ox at_ vn vs ns ss hfr hat hfar he hroom hQ
  simp only [Bool.and_eq_true, Nat.ble_eq, Nat.blt_eq] at hs1
  have hz := hfr.size
  refine wp_region (wpOps2 rfl rfl ?_)
  refine wp_move rfl (wp_callF rfl rfl hfn hb hname (vs := #[.pointer (some ⟨be, oe, none⟩), .pointer (some ⟨bx, ox, none⟩)]) ?_ ?_)
  · simp only [List.map_toArray, List.map_cons, List.map_nil]
    congr 1
    rw [eval_put, if_pos ⟨rfl, by omega⟩, eval_put, if_neg (by omega)]
    rw [show a.eval (.tmp 0) = _ from hfr.e, show a.eval (.tmp 1) = _ from hfr.x]
  · refine (hsee w Z be oe base bx ox at_ vn vs ns ss hat hfar he hroom).mono ?_
    rintro e w' ⟨rfl, hk, hx⟩
    exact ⟨_, rfl, hQ _ _ ((hfr.put (fun d h => by cases h; exact hs1.1) _).put hdst _) hk hx⟩

theorem SeeOK.of_code {P : Program} {T3 T9 f n : Nat} {fn : Func} {c : Code} {d : D} (hf : P.funcs[f]? = some fn) (hb : fn.body = some c) (hn : fn.ntmps = n) (hn2 : 2 ≤ n) (hr : fn.results = #[]) (h : SeeCode P T3 T9 n c d 0) : SeeOK P T3 T9 f d := by
  intro w Z be oe base bx ox at_ vn vs ns ss hat hfar he hroom
  refine calls_of_wp hf hb ?_
  refine h _ _ w Z be oe base bx ox at_ vn vs ns ss ⟨?_, rfl, ?_, ?_⟩ hat hfar he hroom ?_
  · simp [hn]; omega
  · simp [Array.getD_eq_getD_getElem?, Array.getElem?_append]
  · simp [Array.getD_eq_getD_getElem?, Array.getElem?_append]
  · intro a' w' hfr hk hx
    refine ⟨hfr.defers, .tuple #[], ?_, rfl, hk, hx⟩
    simp [results, hr]

end Go.Sx

namespace Go.Sx
open Go

def elem (w : World) (e : D) (ao : Option Addr) (i : Nat) (st : Seen) : Seen :=
  match ao with
  | some a => seen w e a.block (a.off + i * e.size) st
  | none => seen w e 0 (0 + i * e.size) st

theorem seen_row {w : World} {t : Nat} {e : D} {b o : Nat} {ao : Option Addr} {l c : Nat} (h : w.cell? ⟨b, o, none⟩ = some (.slice ao l c)) (st : Seen) :
    seen w (.row t e) b o st = rowLoop (elem w e ao) l 0 (st.1 ++ [(l : Int)], st.2) := by
  simp only [seen, h]
  cases ao <;> rfl

structure AllRel (T3 T9 : Nat) (w : World) (be oe base : Nat) (at_ : Int) (F : Nat → Seen → Seen) (l : Nat) (st0 : Seen) (C : Nat) (k i : Nat) (wr : World) (vn vs : Value) (st : Seen) : Prop where
  ik : i + k = l
  keeps : Keeps w wr be oe base
  eye : EyeAt T3 T9 wr be oe base false at_ vn vs st.1 st.2
  eq : rowLoop F l 0 st0 = rowLoop F k i st
  n : st0.1.length ≤ st.1.length
  ni : st0.1.length + i ≤ st.1.length
  s : st.2.length ≤ st0.2.length + 2 * C * (st.1.length - st0.1.length)

section
variable {P : Program} {T3 T9 h t : Nat} {w : World} {Z : Nat → Prop} {be oe base : Nat} {at_ : Int} {e : D} {ao : Option Addr} {l k i : Nat} {ns : List Int} {ss : List ByteArray} {wr : World} {vn vs : Value} {st : Seen}

theorem AllRel.out (hr : AllRel T3 T9 w be oe base at_ (elem w e ao) l (ns ++ [(l : Int)], ss) e.co k i wr vn vs st) (hx : k = 0 ∨ 200000 ≤ st.1.length) :
    SeePost T3 T9 w be oe base at_ (rowLoop (elem w e ao) l 0 (ns ++ [(l : Int)], ss)) (.returned (.tuple #[])) wr := by
  have : rowLoop (elem w e ao) l 0 (ns ++ [(l : Int)], ss) = st := by
    rw [hr.eq]
    rcases hx with hx | hx
    · subst hx; rfl
    · cases k with
      | zero => rfl
      | succ k => simp only [rowLoop]; rw [if_neg (by omega)]
  rw [this]
  exact ⟨rfl, hr.keeps, vn, vs, hr.eye⟩

theorem AllRel.round (hnum : e.num = true) (hrows : e.rows = true) (hrow : RowRd Z w e ao l) (hfar : Far Z be base) (hroom : Room (.row t e) ns ss) (hsee : SeeOK P T3 T9 h e)
    (hr : AllRel T3 T9 w be oe base at_ (elem w e ao) l (ns ++ [(l : Int)], ss) e.co (k + 1) i wr vn vs st) (hlt : st.1.length < 200000) :
    ∃ b' o', ao = some ⟨b', o', none⟩ ∧ i < l ∧ Calls P h #[.pointer (some ⟨be, oe, none⟩), .pointer (some ⟨b', o' + i * e.size, none⟩)] wr fun en w' => en = .returned (.tuple #[]) ∧
      ∃ vn' vs' st', AllRel T3 T9 w be oe base at_ (elem w e ao) l (ns ++ [(l : Int)], ss) e.co k (i + 1) w' vn' vs' st' := by
  have hil : i < l := by have := hr.ik; omega
  rcases hrow with hl | ⟨b', o', rfl, hat⟩
  · omega
  · refine ⟨b', o', rfl, hil, ?_⟩
    have hsame := hr.keeps.same hfar
    have hati := hat i (by omega)
    have hRM := RM_eq
    have hroom' : Room e st.1 st.2 := by
      obtain ⟨h1, h2, h0⟩ := hroom
      simp only [D.bnd, D.co] at h1 h2
      have hn0 := hr.n
      simp only [List.length_append, List.length_cons, List.length_nil] at hn0
      have hfit : e.fit st.1.length := by
        rcases h0 with h0 | h0
        · omega
        · exact e.fit_mono h0 (by omega)
      refine ⟨by omega, ?_, hfit⟩
      have h3 := hr.s
      simp only [List.length_append, List.length_cons, List.length_nil] at h3
      have h4 : 2 * e.co * (st.1.length - (ns.length + (0 + 1))) ≤ 2 * e.co * 200000 := Nat.mul_le_mul_left _ (by omega)
      have h5 : 2 * e.co * 200000 + e.co * RM ≤ 2 * e.co * RM := by
        rw [← hRM]
        have : 2 * e.co * 200000 = e.co * 400000 := by rw [Nat.mul_comm 2, Nat.mul_assoc]
        rw [this, ← Nat.mul_add, Nat.mul_comm 2, Nat.mul_assoc]
        exact Nat.mul_le_mul_left _ (by omega)
      generalize 2 * e.co * (st.1.length - (ns.length + (0 + 1))) = u at *
      generalize 2 * e.co * 200000 = v at *
      generalize e.co * RM = x at *
      generalize 2 * e.co * RM = y at *
      omega
    refine (hsee wr Z be oe base b' (o' + i * e.size) at_ vn vs st.1 st.2 (hati.same hsame e) hfar hr.eye hroom').mono ?_
    rintro en w' ⟨rfl, hk, vn', vs', he'⟩
    rw [seen_same hsame e hati] at he'
    obtain ⟨c1, c2, c3⟩ := seen_co w e hrows b' (o' + i * e.size) (st.1, st.2)
    have c2 := c2 hnum
    simp only at c1 c2 c3
    refine ⟨rfl, vn', vs', seen w e b' (o' + i * e.size) (st.1, st.2), ⟨by have := hr.ik; omega, hr.keeps.trans hk, he', ?_, ?_, ?_, ?_⟩⟩
    · rw [hr.eq]
      simp only [rowLoop]
      rw [if_pos hlt]
      rfl
    · have := hr.n; omega
    · have := hr.ni; omega
    · have h3 := hr.s
      have h4 := hr.n
      generalize (seen w e b' (o' + i * e.size) (st.1, st.2)).1.length = a at *
      generalize (seen w e b' (o' + i * e.size) (st.1, st.2)).2.length = b at *
      generalize (ns ++ [(l : Int)], ss).1.length = n0 at *
      have e1 : e.co * (a - st.1.length + 1) ≤ 2 * e.co * (a - st.1.length) := by
        have : a - st.1.length + 1 ≤ 2 * (a - st.1.length) := by omega
        calc e.co * (a - st.1.length + 1) ≤ e.co * (2 * (a - st.1.length)) := Nat.mul_le_mul_left _ this
          _ = 2 * e.co * (a - st.1.length) := by rw [Nat.mul_left_comm, Nat.mul_assoc]
      have e2 : 2 * e.co * (a - n0) = 2 * e.co * (a - st.1.length) + 2 * e.co * (st.1.length - n0) := by
        rw [← Nat.mul_add]; congr 1; omega
      omega

end

theorem EyeAt.formN {T3 T9 : Nat} {w : World} {be oe base : Nat} {mk : Bool} {at_ : Int} {vn vs : Value} {ns : List Int} {ss : List ByteArray} (h : EyeAt T3 T9 w be oe base mk at_ vn vs ns ss) : ∃ ao c, vn = .slice ao ns.length c := by
  rcases h.on.2 with ⟨h1, h2⟩ | ⟨g, cap, cur, h1, _⟩
  · exact ⟨none, 0, by rw [h1, h2]⟩
  · exact ⟨_, _, h1⟩

theorem run_callFn {P : Program} {h : Nat} {fn : Func} (hh : P.funcs[h]? = some fn) (hb : fn.body.isSome = true) (hname : (fn.name == "runtime.NumGoroutine") = false) (args : Array Value) (w : World) : (callFunc h args).run P w = .ok (.enter h args) w := by
  obtain ⟨body, hb⟩ := Option.isSome_iff_exists.1 hb
  simp only [callFunc, Sem.run_bind, run_program, Result.andThen_ok, hh, hname, hb, Option.isNone_some, Bool.false_eq_true, if_false, Sem.run_pure]

def AllOK (P : Program) (T3 T9 g h t : Nat) (e : D) : Prop :=
  ∀ (w : World) (Z : Nat → Prop) (be oe base : Nat) (ao : Option Addr) (l c : Nat) (at_ : Int) (vn vs : Value) (ns : List Int) (ss : List ByteArray), RowRd Z w e ao l → l ≤ maxLen → Far Z be base → EyeAt T3 T9 w be oe base false at_ vn vs ns ss → Room (.row t e) ns ss →
    Calls P g #[.pointer (some ⟨be, oe, none⟩), .slice ao l c, .func (.func h) #[] #[]] w (SeePost T3 T9 w be oe base at_ (rowLoop (elem w e ao) l 0 (ns ++ [(l : Int)], ss)))

theorem wp_load1 {P : Program} {o : Oper} {x : Operand} {T : Nat} {a : Act} {w : World} {K : Act → World → Prop} {Q : Exit → Act → World → Prop} (ho : o.op = .load T x) (hagg : aggOf P T = some false) {ad : Addr} (hx : a.eval x = .pointer (some ad)) {v : Value} (hc : w.cell? ad = some v)
    (h : K (a.put o.dst v) w) : o.wp P a w K Q :=
  Oper.wp_val (v := v) (by simp [execOp, ho, Instr.loadAt, Instr.sureAddr, hx, loadVar, run_aggOf hagg, run_load, hc]) h

theorem SeeCode.row {P : Program} {T3 T9 n id s1 s2 s3 s4 T t g h : Nat} {dst : Option Tmp} {y1 y2 y3 y4 y5 : Nat} {p1 p2 p3 p4 p5 : String} {f1 f2 f3 f4 f5 : Array Edge} {tys : Array Nat} {e : D} {fn : Func}
    (hsl : slotsB n s1 s2 s3 s4 = true) (hdst : ∀ x, dst = some x → 2 ≤ x) (hagg : aggOf P T = some false)
    (hfn : P.funcs[g]? = some fn) (hb : fn.body.isSome = true) (hname : (fn.name == "runtime.NumGoroutine") = false) (hall : AllOK P T3 T9 g h t e) :
    SeeCode P T3 T9 n (.region id #[⟨some s1, .move (.tmp 0), y1, p1, f1, none⟩, ⟨some s2, .move (.tmp 1), y2, p2, f2, none⟩, ⟨some s3, .nilCheck (.tmp s2), y3, p3, f3, none⟩, ⟨some s4, .load T (.tmp s3), y4, p4, f4, none⟩,
      ⟨dst, .call ⟨.value (.func g), #[.tmp s1, .tmp s4, .func h], tys⟩, y5, p5, f5, none⟩] false) (.row t e) 0 := by
  intro Q a w Z be oe base bx ox at_ vn vs ns ss hfr hat hfar he hroom hQ
  obtain ⟨h1, h2, h3, h4, l1, l2, l3, l4, d12, d13, d14⟩ := slots_of hsl
  have hz := hfr.size
  obtain ⟨ao, l, c, hc, hlc, hlb, hrow⟩ := hat.row
  refine wp_region (wpOps5 rfl rfl rfl rfl rfl ?_)
  refine wp_move rfl (wp_move rfl (wp_nilCheck (ad := ⟨bx, ox, none⟩) rfl ?_ (wp_load1 (ad := ⟨bx, ox, none⟩) rfl hagg ?_ hc (wp_callF rfl rfl hfn hb hname (vs := #[.pointer (some ⟨be, oe, none⟩), .slice ao l c, .func (.func h) #[] #[]]) ?_ ?_))))
  · rw [eval_put, if_pos ⟨rfl, by simp only [put_size]; omega⟩]
    rw [eval_put, if_neg (by omega)]; exact hfr.x
  · rw [eval_put, if_pos ⟨rfl, by simp only [put_size]; omega⟩]
  · simp only [List.map_toArray, List.map_cons, List.map_nil]
    congr 1
    rw [eval_put, if_neg (by omega), eval_put, if_neg (by omega), eval_put, if_neg (by omega), eval_put, if_pos ⟨rfl, by omega⟩, eval_put, if_pos ⟨rfl, by simp only [put_size]; omega⟩]
    rw [show a.eval (.tmp 0) = _ from hfr.e]
    rfl
  · refine (hall w Z be oe base ao l c at_ vn vs ns ss hrow (Nat.le_trans hlc hlb) hfar he hroom).mono ?_
    rintro en w' ⟨rfl, hk, hx⟩
    refine ⟨_, rfl, hQ _ _ ?_ hk ?_⟩
    · exact (((((hfr.put (fun d h => by cases h; exact h1) _).put (fun d h => by cases h; exact h2) _).put (fun d h => by cases h; exact h3) _).put (fun d h => by cases h; exact h4) _).put hdst _)
    · rw [seen_row hc]; exact hx

end Go.Sx

namespace Go.Sx
open Go

def seenN (w : World) (e : D) (b o : Nat) (st : Seen) : Nat → Seen
  | 0 => st
  | i + 1 => seen w e b (o + i * e.size) (seenN w e b o st i)

def rep (e : D) : Nat → D
  | 0 => .nil
  | 1 => e
  | n + 1 => .seq (rep e n) e

theorem rep_size (e : D) : ∀ n, (rep e n).size = n * e.size := by
  intro n
  induction n with
  | zero => simp [rep, D.size]
  | succ n ih =>
    cases n with
    | zero => simp [rep]
    | succ n => simp only [rep, D.size] at ih ⊢; rw [ih, ← Nat.succ_mul]

theorem seen_rep (w : World) (e : D) (b o : Nat) (st : Seen) : ∀ n, seen w (rep e n) b o st = seenN w e b o st n := by
  intro n
  induction n with
  | zero => rfl
  | succ n ih =>
    cases n with
    | zero => simp [rep, seenN]
    | succ n =>
      have : rep e (n + 1 + 1) = .seq (rep e (n + 1)) e := rfl
      rw [this]
      simp only [seen, rep_size]
      rw [ih]; rfl

theorem rep_rows {e : D} (h : e.rows = true) : ∀ n, (rep e n).rows = true := by
  intro n
  induction n with
  | zero => rfl
  | succ n ih =>
    cases n with
    | zero => exact h
    | succ n =>
      have : rep e (n + 1 + 1) = .seq (rep e (n + 1)) e := rfl
      rw [this]; simp only [D.rows, ih, h, Bool.and_self]

theorem Rd.rep {Z : Nat → Prop} {w : World} {e : D} {b o : Nat} : ∀ {n i : Nat}, Rd Z w (Go.Sx.rep e n) b o → i < n → Rd Z w e b (o + i * e.size) := by
  intro n
  induction n with
  | zero => intro i _ h; omega
  | succ n ih =>
    intro i h hi
    cases n with
    | zero =>
      have : i = 0 := by omega
      subst this
      simpa [Go.Sx.rep] using h
    | succ n =>
      have e1 : Go.Sx.rep e (n + 1 + 1) = .seq (Go.Sx.rep e (n + 1)) e := rfl
      rw [e1] at h
      rcases Nat.lt_or_ge i (n + 1) with hlt | hge
      · exact ih h.fst hlt
      · have : i = n + 1 := by omega
        subst this
        have := h.snd
        rwa [rep_size] at this

theorem Room.rep {e : D} {ns : List Int} {ss : List ByteArray} (hr : e.rows = true) : ∀ {n i : Nat}, Room (Go.Sx.rep e n) ns ss → i < n → ∀ (w : World) (b o : Nat), Room e (seenN w e b o (ns, ss) i).1 (seenN w e b o (ns, ss) i).2 := by
  intro n
  induction n with
  | zero => intro i _ h; omega
  | succ n ih =>
    intro i h hi w b o
    cases n with
    | zero =>
      have : i = 0 := by omega
      subst this
      exact h
    | succ n =>
      have e1 : Go.Sx.rep e (n + 1 + 1) = .seq (Go.Sx.rep e (n + 1)) e := rfl
      rw [e1] at h
      rcases Nat.lt_or_ge i (n + 1) with hlt | hge
      · exact ih h.fst hlt w b o
      · have : i = n + 1 := by omega
        subst this
        have := h.snd (rep_rows hr (n + 1)) w b o
        rwa [seen_rep] at this

structure ArrRel (T3 T9 : Nat) (w : World) (be oe base : Nat) (at_ : Int) (e : D) (b o n : Nat) (st0 : Seen) (k i : Nat) (wr : World) (vn vs : Value) : Prop where
  ik : i + k = n
  keeps : Keeps w wr be oe base
  eye : EyeAt T3 T9 wr be oe base false at_ vn vs (seenN w e b o st0 i).1 (seenN w e b o st0 i).2

section
variable {P : Program} {T3 T9 h : Nat} {w : World} {Z : Nat → Prop} {be oe base : Nat} {at_ : Int} {e : D} {b o n k i : Nat} {ns : List Int} {ss : List ByteArray} {wr : World} {vn vs : Value}

theorem ArrRel.out (hr : ArrRel T3 T9 w be oe base at_ e b o n (ns, ss) 0 i wr vn vs) : SeePost T3 T9 w be oe base at_ (seen w (rep e n) b o (ns, ss)) (.returned (.tuple #[])) wr := by
  have : i = n := by have := hr.ik; omega
  subst this
  rw [seen_rep]
  exact ⟨rfl, hr.keeps, vn, vs, hr.eye⟩

theorem ArrRel.round (hrows : e.rows = true) (hat : Rd Z w (rep e n) b o) (hfar : Far Z be base) (hroom : Room (rep e n) ns ss) (hsee : SeeOK P T3 T9 h e)
    (hr : ArrRel T3 T9 w be oe base at_ e b o n (ns, ss) (k + 1) i wr vn vs) :
    Calls P h #[.pointer (some ⟨be, oe, none⟩), .pointer (some ⟨b, o + i * e.size, none⟩)] wr fun en w' => en = .returned (.tuple #[]) ∧
      ∃ vn' vs', ArrRel T3 T9 w be oe base at_ e b o n (ns, ss) k (i + 1) w' vn' vs' := by
  have hil : i < n := by have := hr.ik; omega
  have hsame := hr.keeps.same hfar
  have hati := Rd.rep hat hil
  refine (hsee wr Z be oe base b (o + i * e.size) at_ vn vs _ _ (hati.same hsame e) hfar hr.eye (Room.rep hrows hroom hil w b o)).mono ?_
  rintro en w' ⟨rfl, hk, vn', vs', he'⟩
  rw [seen_same hsame e hati] at he'
  exact ⟨rfl, vn', vs', by have := hr.ik; omega, hr.keeps.trans hk, he'⟩

end

structure Hp (w w' : World) : Prop where
  heap : w'.heap = w.heap
  os : w'.os = w.os
  tape : w'.tape = w.tape
  output : w'.output = w.output

theorem Hp.refl (w : World) : Hp w w := ⟨rfl, rfl, rfl, rfl⟩
theorem Hp.trans {w w' w'' : World} (h : Hp w w') (k : Hp w' w'') : Hp w w'' := ⟨k.heap.trans h.heap, k.os.trans h.os, k.tape.trans h.tape, k.output.trans h.output⟩
theorem Hp.drew {w w' : World} (h : Hp w w') : Hp w w'.drew := ⟨h.heap, h.os, h.tape, h.output⟩
theorem Hp.cell {w w' : World} (h : Hp w w') (a : Addr) : w'.cell? a = w.cell? a := World.cell?_of_block (by rw [h.heap])
theorem Hp.owns {w w' : World} (h : Hp w w') {base e size : Nat} {v : Value} {n : Nat} {xs : List Value} (ho : w.ownsRow base e size v n xs) : w'.ownsRow base e size v n xs := by
  refine ⟨ho.1, ?_⟩
  rw [h.heap]; exact ho.2
theorem Hp.grown {w w' : World} (h : Hp w w') : w.grownBy w' none := ⟨h.os, h.tape, h.output, by rw [h.heap]; exact Nat.le_refl _, fun k _ _ => by rw [h.heap]⟩

theorem grown_trans {w w' w'' : World} (h : w.grownBy w' none) (k : w'.grownBy w'' none) : w.grownBy w'' none :=
  ⟨k.os.trans h.os, k.tape.trans h.tape, k.output.trans h.output, Nat.le_trans h.size k.size, fun b hb hn => (k.block b (Nat.lt_of_lt_of_le hb h.size) hn).trans (h.block b hb hn)⟩

theorem grown_alloc (w : World) (o : Obj) : w.grownBy (w.alloc o) none :=
  ⟨rfl, rfl, rfl, by show w.heap.size ≤ (w.heap.push o).size; simp, fun k hk _ => by rw [alloc_get, if_neg (by omega)]⟩

theorem owns_at {w : World} {base e : Nat} {ao : Option Addr} {n c : Nat} {xs : List Value} (h : w.ownsRow base e 1 (.slice ao n c) n xs) {i : Nat} (hi : i < n) : ∃ g, ao = some ⟨g, 0, none⟩ ∧ w.cell? ⟨g, i, none⟩ = xs[i]? := by
  rcases h.2 with ⟨_, h2⟩ | ⟨g, cap, cur, h1, _⟩
  · omega
  · cases h1
    exact ⟨g, rfl, World.ownsRow.cellAt h i (by omega)⟩

end Go.Sx
