/- Part L of a proof: helper lemmas; no conditions. -/
import Derived.Test.YtiecagflhhmfnaaDoorK
import Derived.Test.YtiecagflhhmfnaaDoorJ

/-
  Checks of kinds and copies by computation.
-/
namespace Go.Sx
open Go

def CT.baseB : CT → CT → Bool
  | .int k a b, .int k' a' b' => keq k k' && decide (a = a') && decide (b = b')
  | .bool, .bool | .str, .str => true
  | .slice (.base t), .slice (.base t') => Nat.beq t t'
  | _, _ => false

theorem CT.baseB_eq {a b : CT} (h : CT.baseB a b = true) : a = b := by
  cases a with
  | int k lo hi =>
    cases b <;> simp [CT.baseB] at h
    rw [keq_eq h.1.1, h.1.2, h.2]
  | bool => cases b <;> simp [CT.baseB] at h; rfl
  | str => cases b <;> simp [CT.baseB] at h; rfl
  | slice E =>
    cases b with
    | slice E' =>
      cases E <;> cases E' <;> simp [CT.baseB] at h
      rw [h]
    | _ => cases E <;> simp [CT.baseB] at h
  | any => cases b <;> simp [CT.baseB] at h
  | sliceB m E => cases b <;> simp [CT.baseB] at h
  | strB m => cases b <;> simp [CT.baseB] at h

def ctsB : List CT → List CT → Bool
  | [], [] => true
  | a :: l, b :: m => CT.baseB a b && ctsB l m
  | _, _ => false

theorem ctsB_eq : ∀ {l m : List CT}, ctsB l m = true → l = m := by
  intro l
  induction l with
  | nil => intro m h; cases m with
    | nil => rfl
    | cons b m => cases h
  | cons a l ih => intro m h; cases m with
    | nil => cases h
    | cons b m => simp only [ctsB, Bool.and_eq_true] at h; rw [CT.baseB_eq h.1, ih h.2]

def D.okB (P : Program) : D → Bool
  | .seq a b => a.okB P && b.okB P
  | .row t e => ctsB (tau P (.base t)) e.cts && Nat.ble 1 e.size && e.okB P
  | _ => true

theorem D.okB_ok {P : Program} : ∀ {d : D}, d.okB P = true → d.ok P := by
  intro d
  induction d with
  | seq a b iha ihb => intro h; simp only [D.okB, Bool.and_eq_true] at h; exact ⟨iha h.1, ihb h.2⟩
  | row t e ih =>
    intro h
    simp only [D.okB, Bool.and_eq_true, Nat.ble_eq] at h
    exact ⟨ctsB_eq h.1.1, h.1.2, ih h.2⟩
  | _ => intro _; trivial

/-- a type's size, its zero and its bytes -/
def copyB (P : Program) (t es : Nat) : Bool :=
  match P.info? t with
  | some i => (match i.zero with | some z => Nat.beq i.size es && Nat.beq z.cells.size es && Nat.ble 1 es && Nat.ble i.bytes 1000000 | none => false)
  | none => false

theorem CopyRaw.of_codeB {P : Program} {g t es n i0 i1 r s1 s2 T y0 y1 y2 y3 : Nat} {p0 p1 p2 p3 : String} {f0 f1 f2 f3 : Array Edge} {fn : Func}
    (hf : P.funcs[g]? = some fn) (hn : fn.ntmps = n) (hr : fn.results = #[.tmp r]) (hs : (Nat.blt r n && Nat.blt s1 n && Nat.blt s2 n && Nat.ble 1 n && Nat.ble 1 r && Nat.ble 1 s1) = true)
    (hT : P.underlying T = some (.slice t)) (hc : copyB P t es = true)
    (hb : fn.body = some (.seq (.region i0 #[⟨some r, .assign (.const (.slice none 0 0)), y0, p0, f0, none⟩] false) (.seq (.region i1 #[⟨some s1, .move (.tmp 0), y1, p1, f1, none⟩,
      ⟨some s2, .call ⟨.builtin .append, #[.const (.slice none 0 0), .tmp s1], #[T, T]⟩, y2, p2, f2, none⟩, ⟨some r, .assign (.tmp s2), y3, p3, f3, none⟩] false) .ret))) : CopyRaw P g t es := by
  unfold copyB at hc
  split at hc
  · rename_i i hi
    split at hc
    · rename_i z hz
      simp only [Bool.and_eq_true, Nat.ble_eq] at hc
      obtain ⟨⟨⟨h1, h2⟩, h3⟩, h4⟩ := hc
      exact CopyRaw.of_code hf hn hr hs hT hi hz (by simpa using h1) (by simpa using h2) h3 h4 (by simp [zeroAt, hi, hz]) hb
    · cases hc
  · cases hc

def rowZB (P : Program) (t : Nat) (e : D) : Bool :=
  ctsB (tau P (.base t)) e.cts && Nat.ble 1 e.size && (match zeroAt P t with | some z => Nat.beq z.cells.size e.size && constFitL z.cells.toList e.cts | none => false)

theorem OwnOK.rowB {P : Program} {m g t : Nat} {e : D} (hcr : CopyRaw P g t e.size) (hm : m ≤ 2000) (hf : e.flat = true) (h : rowZB P t e = true) : OwnOK P m g false (.row t e) := by
  unfold rowZB at h
  simp only [Bool.and_eq_true, Nat.ble_eq] at h
  obtain ⟨⟨h1, h2⟩, h3⟩ := h
  split at h3
  · rename_i z hz
    simp only [Bool.and_eq_true] at h3
    exact OwnOK.row hcr hm hf (ctsB_eq h1) h2 hz (by simpa using h3.1) h3.2
  · cases h3

end Go.Sx

/-
  Plain facts of numbers for conditions that are not linear.
-/
namespace Go.Sx
open Go

theorem nl_split {n k i m : Int} (hk : 1 ≤ k) (hn : 0 ≤ n) (hi : 0 ≤ i) (h : i < m) (hm : m = 1 ∨ m = (n + k + -1) / k) : i * k ≤ n := by
  rcases hm with hm | hm
  · have : i = 0 := by omega
    subst this; simpa using hn
  · have h1 : i + 1 ≤ (n + k + -1) / k := by omega
    have h2 := (Int.le_ediv_iff_mul_le (show 0 < k by omega)).1 h1
    rw [Int.add_mul] at h2
    omega

end Go.Sx
