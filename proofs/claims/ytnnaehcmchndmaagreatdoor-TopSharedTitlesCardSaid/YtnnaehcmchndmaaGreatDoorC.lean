/- Part C of a proof: helper lemmas; no conditions. -/
import Derived.Test.YtnnaehcmchndmaaGreatDoorB
import Derived.Laws.Strings
import Derived.Laws.MakeOwn
import Derived.Laws.BytesString

set_option linter.unusedSimpArgs false
set_option linter.unusedVariables false

namespace Go.Sx
open Go

def isPow2Mask (z : Int) : Option Int :=   -- z = 2^m - 1: gives 2^m
  match z with
  | .ofNat n => bif Nat.beq (Nat.land n (n + 1)) 0 then some (n + 1) else none
  | _ => none

def kRange (k : IntKind) : IV := some (k.min, k.max)

def newK (s : AS) (k : IntKind) (iv : IV) (vcs : List VC) : OR := { av := .pv (.one (.int k (.v s.nv))), ivs := [iv], vcs := vcs }

def lo0 : IV → Bool
  | some (l, _) => ile 0 l
  | none => false
def lo1 : IV → Bool
  | some (l, _) => ile 1 l
  | none => false

def absInt2 (s : AS) (op : BinOp) (k : IntKind) (x y : T) : Option OR :=
  match op with
  | .add => some { av := .pv (.one (.int k ((T.addS x y).fit s.iv k))) }
  | .sub => some { av := .pv (.one (.int k ((T.subS x y).fit s.iv k))) }
  | .mul => some { av := .pv (.one (.int k ((T.mulS x y).fit s.iv k))) }
  | .quo => bif lo0 (x.ivl s.iv) && lo1 (y.ivl s.iv) then some { av := .pv (.one (.int k ((T.div x y).fit s.iv k))) }
    else some (newK s k (kRange k) (s.need (.ne y (.c 0))))
  | .rem => bif lo0 (x.ivl s.iv) && lo1 (y.ivl s.iv) then some { av := .pv (.one (.int k (.mod x y))) }
    else bif lo0 (x.ivl s.iv) then some { av := .pv (.one (.int k (.mod x y))), vcs := s.need (.le (.c 1) y) }
    else some (newK s k (match x.ivl s.iv with | some (l, h) => some (imin l 0, imax h 0) | none => none) (s.need (.ne y (.c 0))))
  | .and =>
    match x, y with
    | x, .c z => bif lo0 (x.ivl s.iv) then
        (match isPow2Mask z with
         | some m => (match x.ivl s.iv with
            | some (_, h) => bif ile h k.max && ile z k.max then some { av := .pv (.one (.int k (.mod x (.c m)))) } else some (newK s k (kRange k) [])
            | none => some (newK s k (kRange k) []))
         | none => some (newK s k (kRange k) []))
      else some (newK s k (kRange k) [])
    | _, _ => some (newK s k (kRange k) [])
  | .or | .xor | .andNot => some (newK s k (kRange k) [])
  | .eql => some { av := .pv (.one (.bool (.eq x y))) }
  | .neq => some { av := .pv (.one (.bool (.ne x y))) }
  | .lss => some { av := .pv (.one (.bool (.lt x y))) }
  | .leq => some { av := .pv (.one (.bool (.le x y))) }
  | .gtr => some { av := .pv (.one (.bool (.lt y x))) }
  | .geq => some { av := .pv (.one (.bool (.le y x))) }
  | _ => none

def absShift (s : AS) (op : BinOp) (k : IntKind) (x y : T) : Option OR :=
  match op with
  | .shl =>
    match y with
    | .c (.ofNat n) => bif Nat.ble n k.bits then some { av := .pv (.one (.int k ((T.mulS x (.c (2 ^ n : Nat))).fit s.iv k))) } else some (newK s k (kRange k) [])
    | y => some (newK s k (kRange k) (s.need (.le (.c 0) y)))
  | .shr =>
    match y, x.ivl s.iv with
    | .c (.ofNat n), some (l, h) => bif Nat.ble n k.bits && ile 0 l then some { av := .pv (.one (.int k (.div x (.c (2 ^ n : Nat))))) } else some (newK s k (some (imin l 0, imax h 0)) [])
    | y, some (l, h) => bif ile 0 l then some (newK s k (some (0, h)) (s.need (.le (.c 0) y))) else some (newK s k (some (imin l 0, imax h 0)) (s.need (.le (.c 0) y)))
    | _, _ => none
  | _ => none

theorem lo0_ok {ρ : Val} {iv : List IV} (h : ivOK ρ 0 iv) {t : T} (ht : lo0 (t.ivl iv) = true) : 0 ≤ t.ev ρ := by
  unfold lo0 at ht
  split at ht
  · rename_i l h1 e; have := (T.ivl_ok h t _ _ e).1; have := ile_iff.1 ht; omega
  · cases ht
theorem lo1_ok {ρ : Val} {iv : List IV} (h : ivOK ρ 0 iv) {t : T} (ht : lo1 (t.ivl iv) = true) : 1 ≤ t.ev ρ := by
  unfold lo1 at ht
  split at ht
  · rename_i l h1 e; have := (T.ivl_ok h t _ _ e).1; have := ile_iff.1 ht; omega
  · cases ht

theorem newK_ok {X : Ctx} {s : AS} {χ : Chi} {a : Act} {w : World} (hg : gS X s χ a w) (k : IntKind) (iv : IV) (vcs : List VC) (z : Int) (hz : ∀ lo hi, iv = some (lo, hi) → lo ≤ z ∧ z ≤ hi) :
    ∃ χ', Step X s (newK s k iv vcs) χ w χ' w (.int k z) := by
  refine ⟨_, Step.new1 hg z (.inl rfl) ?_ hz (fun _ _ _ => trivial)⟩
  intro ρ' _ hz'
  show _ = Value.int _ _
  simp only [T.ev, Chi.withρ, hz']

theorem kRange_ok {k : IntKind} {z : Int} (h : k.min ≤ z ∧ z ≤ k.max) : ∀ lo hi, kRange k = some (lo, hi) → lo ≤ z ∧ z ≤ hi := by
  intro lo hi e; simp only [kRange, Option.some.injEq, Prod.mk.injEq] at e; omega

theorem land_mask (x m : Nat) (h : Nat.land m (m + 1) = 0) : x &&& m = x % (m + 1) := by
  have h' : m &&& (m + 1) = 0 := h
  have hp : (m + 1).isPowerOfTwo := by
    have := (Nat.and_sub_one_eq_zero_iff_isPowerOfTwo (n := m + 1) (by omega)).1 (by rw [Nat.and_comm]; simpa using h')
    exact this
  obtain ⟨k, hk⟩ := hp
  have : m = 2 ^ k - 1 := by omega
  subst this
  rw [Nat.and_two_pow_sub_one_eq_mod]
  rw [hk]

end Go.Sx
namespace Go.Sx
open Go

theorem kmax_lt (k : IntKind) : k.max < (2 : Int) ^ k.bits := by cases k <;> decide
theorem kmin_le (k : IntKind) : k.min ≤ 0 := by cases k <;> decide

theorem run_and_mask (k : IntKind) (x : Int) (m : Nat) (hx : 0 ≤ x) (hxm : x ≤ k.max) (hm : (m : Int) ≤ k.max) (h : Nat.land m (m + 1) = 0) (P : Program) (w : World) :
    (Op.intBits .and k x (m : Int)).run P w = .ok (.int k (x % ((m : Int) + 1))) w := by
  obtain ⟨n, rfl⟩ := Int.eq_ofNat_of_zero_le hx
  have hb := kmax_lt k
  have hp : (2 : Int) ^ k.bits = ((2 ^ k.bits : Nat) : Int) := by simp
  have hn : n < 2 ^ k.bits := by omega
  have hm' : m < 2 ^ k.bits := by omega
  simp only [Op.intBits]
  have e1 : (BitVec.ofInt k.bits (n : Int) &&& BitVec.ofInt k.bits (m : Int)).toNat = n % (m + 1) := by
    rw [BitVec.toNat_and]
    simp only [BitVec.ofInt_natCast, BitVec.toNat_ofNat, Nat.mod_eq_of_lt hn, Nat.mod_eq_of_lt hm']
    exact land_mask n m h
  rw [e1]
  have h2 : n % (m + 1) ≤ n := Nat.mod_le _ _
  have hk := kmin_le k
  rw [wrap_id (by omega) (by omega)]
  simp

theorem tmod_range (x y : Int) : (0 ≤ x → 0 ≤ x.tmod y ∧ x.tmod y ≤ x) ∧ (x ≤ 0 → x ≤ x.tmod y ∧ x.tmod y ≤ 0) := by
  have pos : ∀ x : Int, 0 ≤ x → 0 ≤ x.tmod y ∧ x.tmod y ≤ x := by
    intro x hx
    obtain ⟨n, rfl⟩ := Int.eq_ofNat_of_zero_le hx
    rcases Int.le_total 0 y with hy | hy
    · obtain ⟨m, rfl⟩ := Int.eq_ofNat_of_zero_le hy
      have : (n : Int).tmod (m : Int) = ((n % m : Nat) : Int) := by rw [Int.ofNat_tmod]
      rw [this]
      have := Nat.mod_le n m
      omega
    · obtain ⟨m, hm⟩ := Int.eq_ofNat_of_zero_le (show 0 ≤ -y by omega)
      have hy' : y = -(m : Int) := by omega
      subst hy'
      rw [Int.tmod_neg]
      have : (n : Int).tmod (m : Int) = ((n % m : Nat) : Int) := by rw [Int.ofNat_tmod]
      rw [this]
      have := Nat.mod_le n m
      omega
  refine ⟨pos x, fun hx => ?_⟩
  have h := pos (-x) (by omega)
  rw [Int.neg_tmod] at h
  omega

theorem fdiv_range (x : Int) (n : Nat) : (0 ≤ x → 0 ≤ x.fdiv ((2 : Int) ^ n) ∧ x.fdiv ((2 : Int) ^ n) ≤ x) ∧ (x ≤ 0 → x ≤ x.fdiv ((2 : Int) ^ n) ∧ x.fdiv ((2 : Int) ^ n) ≤ 0) := by
  have hp : (0 : Int) < 2 ^ n := by exact_mod_cast Nat.two_pow_pos n
  generalize (2 : Int) ^ n = p at *
  rw [Int.fdiv_eq_ediv_of_nonneg _ (by omega)]
  refine ⟨fun h => ⟨Int.ediv_nonneg h (by omega), Int.ediv_le_self _ h⟩, fun h => ⟨?_, ?_⟩⟩
  · refine (Int.le_ediv_iff_mul_le hp).2 ?_
    have := Int.mul_le_mul_of_nonpos_left (a := x) (b := p) (c := 1) h (by omega)
    omega
  · have := Int.ediv_le_ediv hp h
    simpa using this

def vInt2 (op : BinOp) : Bool := !(op matches .shl | .shr)

theorem absInt2_ok {X : Ctx} {s : AS} {op : BinOp} {k : IntKind} {x y : T} {r : OR} (h : absInt2 s op k x y = some r) {χ : Chi} {a : Act} {w : World} (hg : gS X s χ a w) (hv : ∀ x ∈ r.vcs, x.valid) :
    ∃ v χ', (∀ ty, (binOp op ty (.int k (x.ev χ.ρ)) (.int k (y.ev χ.ρ))).run X.P w = .ok v w) ∧ Step X s r χ w χ' w v := by
  cases op with
  | add =>
    simp only [absInt2, Option.some.injEq] at h; subst h
    exact ⟨_, χ, fun ty => by simp [binOp, Op.intArith]; rfl, Step.pure hg (by show _ = Value.int _ _; rw [T.fit_ev hg.iv, T.addS_ev])⟩
  | sub =>
    simp only [absInt2, Option.some.injEq] at h; subst h
    exact ⟨_, χ, fun ty => by simp [binOp, Op.intArith]; rfl, Step.pure hg (by show _ = Value.int _ _; rw [T.fit_ev hg.iv, T.subS_ev])⟩
  | mul =>
    simp only [absInt2, Option.some.injEq] at h; subst h
    exact ⟨_, χ, fun ty => by simp [binOp, Op.intArith]; rfl, Step.pure hg (by show _ = Value.int _ _; rw [T.fit_ev hg.iv, T.mulS_ev])⟩
  | quo =>
    simp only [absInt2] at h
    cases hc : (lo0 (x.ivl s.iv) && lo1 (y.ivl s.iv)) with
    | true =>
      simp only [hc, cond_true, Option.some.injEq] at h; subst h
      simp only [Bool.and_eq_true] at hc
      have h0 := lo0_ok hg.iv hc.1
      have h1 := lo1_ok hg.iv hc.2
      have hne : y.ev χ.ρ ≠ 0 := by omega
      refine ⟨.int k (k.wrap ((x.ev χ.ρ).tdiv (y.ev χ.ρ))), χ, fun ty => by simp [binOp, Op.intDiv, hne], Step.pure hg ?_⟩
      show _ = Value.int _ _
      rw [T.fit_ev hg.iv]; simp only [T.ev]; rw [Int.tdiv_eq_ediv_of_nonneg h0]
    | false =>
      simp only [hc, cond_false, Option.some.injEq] at h; subst h
      have hne : y.ev χ.ρ ≠ 0 := by have := AS.need_ok hg hv; simpa [Fm.holds, T.ev] using this
      obtain ⟨χ', hs⟩ := newK_ok hg k (kRange k) (s.need (.ne y (.c 0))) (k.wrap ((x.ev χ.ρ).tdiv (y.ev χ.ρ))) (kRange_ok (wrap_range _ _))
      exact ⟨_, χ', fun ty => by simp [binOp, Op.intDiv, hne], hs⟩
  | rem =>
    simp only [absInt2] at h
    cases hc : (lo0 (x.ivl s.iv) && lo1 (y.ivl s.iv)) with
    | true =>
      simp only [hc, cond_true, Option.some.injEq] at h; subst h
      simp only [Bool.and_eq_true] at hc
      have h0 := lo0_ok hg.iv hc.1
      have h1 := lo1_ok hg.iv hc.2
      have hne : y.ev χ.ρ ≠ 0 := by omega
      refine ⟨.int k ((x.ev χ.ρ).tmod (y.ev χ.ρ)), χ, fun ty => by simp [binOp, Op.intDiv, hne], Step.pure hg ?_⟩
      show _ = Value.int _ _
      simp only [T.ev]; rw [Int.tmod_eq_emod_of_nonneg h0]
    | false =>
      simp only [hc, cond_false] at h
      cases hc0 : lo0 (x.ivl s.iv) with
      | true =>
        simp only [hc0, cond_true, Option.some.injEq] at h; subst h
        have h0 := lo0_ok hg.iv hc0
        have h1 : 1 ≤ y.ev χ.ρ := by have := AS.need_ok hg hv; simpa [Fm.holds, T.ev] using this
        have hne : y.ev χ.ρ ≠ 0 := by omega
        refine ⟨.int k ((x.ev χ.ρ).tmod (y.ev χ.ρ)), χ, fun ty => by simp [binOp, Op.intDiv, hne], Step.pure hg ?_⟩
        show _ = Value.int _ _
        simp only [T.ev]; rw [Int.tmod_eq_emod_of_nonneg h0]
      | false =>
        simp only [hc0, cond_false, Option.some.injEq] at h; subst h
        have hne : y.ev χ.ρ ≠ 0 := by have := AS.need_ok hg hv; simpa [Fm.holds, T.ev] using this
        obtain ⟨χ', hs⟩ := newK_ok hg k (match x.ivl s.iv with | some (l, h) => some (imin l 0, imax h 0) | none => none) (s.need (.ne y (.c 0))) ((x.ev χ.ρ).tmod (y.ev χ.ρ)) (fun lo hi e => by
          split at e
          · rename_i l h1 e1
            have := T.ivl_ok hg.iv x _ _ e1
            simp only [Option.some.injEq, Prod.mk.injEq] at e
            have r := tmod_range (x.ev χ.ρ) (y.ev χ.ρ)
            have i1 := imin_le l 0
            have i2 := le_imax h1 0
            omega
          · cases e)
        exact ⟨_, χ', fun ty => by simp [binOp, Op.intDiv, hne], hs⟩
  | and =>
    have hdef : ∃ v χ', (∀ ty, (binOp .and ty (.int k (x.ev χ.ρ)) (.int k (y.ev χ.ρ))).run X.P w = .ok v w) ∧ Step X s (newK s k (kRange k) []) χ w χ' w v := by
      obtain ⟨χ', hs⟩ := newK_ok hg k (kRange k) [] (k.wrap (BitVec.ofInt k.bits (x.ev χ.ρ) &&& BitVec.ofInt k.bits (y.ev χ.ρ)).toNat) (kRange_ok (wrap_range _ _))
      exact ⟨_, χ', fun ty => by simp [binOp, Op.intBits], hs⟩
    simp only [absInt2] at h
    split at h
    · rename_i y' z
      cases hc : lo0 (x.ivl s.iv) with
      | false => simp only [hc, cond_false, Option.some.injEq] at h; subst h; exact hdef
      | true =>
        simp only [hc, cond_true] at h
        split at h
        · rename_i m hm
          split at h
          · rename_i l h1 e
            cases hc2 : (ile h1 k.max && ile z k.max) with
            | false => simp only [hc2, cond_false, Option.some.injEq] at h; subst h; exact hdef
            | true =>
              simp only [hc2, cond_true, Option.some.injEq] at h; subst h
              simp only [Bool.and_eq_true, ile_iff] at hc2
              have h0 := lo0_ok hg.iv hc
              have hx2 := (T.ivl_ok hg.iv x _ _ e).2
              unfold isPow2Mask at hm
              split at hm
              · rename_i n
                cases hb : Nat.beq (Nat.land n (n + 1)) 0 with
                | false => rw [hb] at hm; cases hm
                | true =>
                  simp only [hb, cond_true, Option.some.injEq] at hm
                  have hland : Nat.land n (n + 1) = 0 := by simpa using hb
                  subst hm
                  have hr := run_and_mask k (x.ev χ.ρ) n h0 (by omega) hc2.2 hland X.P w
                  refine ⟨_, χ, fun ty => ?_, Step.pure hg (v := .int k (x.ev χ.ρ % ((n : Int) + 1))) rfl⟩
                  simp only [binOp, T.ev]
                  simpa using hr
              · cases hm
          · simp only [Option.some.injEq] at h; subst h; exact hdef
        · simp only [Option.some.injEq] at h; subst h; exact hdef
    · simp only [Option.some.injEq] at h; subst h; exact hdef
  | or =>
    simp only [absInt2, Option.some.injEq] at h; subst h
    obtain ⟨χ', hs⟩ := newK_ok hg k (kRange k) [] (k.wrap (BitVec.ofInt k.bits (x.ev χ.ρ) ||| BitVec.ofInt k.bits (y.ev χ.ρ)).toNat) (kRange_ok (wrap_range _ _))
    exact ⟨_, χ', fun ty => by simp [binOp, Op.intBits], hs⟩
  | xor =>
    simp only [absInt2, Option.some.injEq] at h; subst h
    obtain ⟨χ', hs⟩ := newK_ok hg k (kRange k) [] (k.wrap (BitVec.ofInt k.bits (x.ev χ.ρ) ^^^ BitVec.ofInt k.bits (y.ev χ.ρ)).toNat) (kRange_ok (wrap_range _ _))
    exact ⟨_, χ', fun ty => by simp [binOp, Op.intBits], hs⟩
  | andNot =>
    simp only [absInt2, Option.some.injEq] at h; subst h
    obtain ⟨χ', hs⟩ := newK_ok hg k (kRange k) [] (k.wrap (BitVec.ofInt k.bits (x.ev χ.ρ) &&& ~~~BitVec.ofInt k.bits (y.ev χ.ρ)).toNat) (kRange_ok (wrap_range _ _))
    exact ⟨_, χ', fun ty => by simp [binOp, Op.intBits], hs⟩
  | eql =>
    simp only [absInt2, Option.some.injEq] at h; subst h
    exact ⟨.bool (decide (x.ev χ.ρ = y.ev χ.ρ)), χ, fun ty => by simp [binOp, Op.intCmp]; rfl, Step.pure hg rfl⟩
  | neq =>
    simp only [absInt2, Option.some.injEq] at h; subst h
    exact ⟨.bool (decide (x.ev χ.ρ ≠ y.ev χ.ρ)), χ, fun ty => by simp [binOp, Op.intCmp]; rw [Bool.eq_iff_iff]; simp, Step.pure hg rfl⟩
  | lss =>
    simp only [absInt2, Option.some.injEq] at h; subst h
    exact ⟨.bool (decide (x.ev χ.ρ < y.ev χ.ρ)), χ, fun ty => by simp [binOp, Op.intCmp], Step.pure hg rfl⟩
  | leq =>
    simp only [absInt2, Option.some.injEq] at h; subst h
    exact ⟨.bool (decide (x.ev χ.ρ ≤ y.ev χ.ρ)), χ, fun ty => by simp [binOp, Op.intCmp], Step.pure hg rfl⟩
  | gtr =>
    simp only [absInt2, Option.some.injEq] at h; subst h
    exact ⟨.bool (decide (y.ev χ.ρ < x.ev χ.ρ)), χ, fun ty => by simp [binOp, Op.intCmp], Step.pure hg rfl⟩
  | geq =>
    simp only [absInt2, Option.some.injEq] at h; subst h
    exact ⟨.bool (decide (y.ev χ.ρ ≤ x.ev χ.ρ)), χ, fun ty => by simp [binOp, Op.intCmp], Step.pure hg rfl⟩
  | shl => simp [absInt2] at h
  | shr => simp [absInt2] at h

theorem fdiv_pow_range {x h : Int} {n : Nat} (h0 : 0 ≤ x) (hx : x ≤ h) : 0 ≤ x.fdiv ((2 : Int) ^ n) ∧ x.fdiv ((2 : Int) ^ n) ≤ h := by
  have hp : (0 : Int) < 2 ^ n := by exact_mod_cast Nat.two_pow_pos n
  rw [Int.fdiv_eq_ediv_of_nonneg _ (by omega)]
  exact ⟨Int.ediv_nonneg h0 (by omega), Int.le_trans (Int.ediv_le_self _ h0) hx⟩

theorem absShift_ok {X : Ctx} {s : AS} {op : BinOp} {k yk : IntKind} {x y : T} {r : OR} (h : absShift s op k x y = some r) {χ : Chi} {a : Act} {w : World} (hg : gS X s χ a w) (hv : ∀ x ∈ r.vcs, x.valid) :
    ∃ v χ', (∀ ty, (binOp op ty (.int k (x.ev χ.ρ)) (.int yk (y.ev χ.ρ))).run X.P w = .ok v w) ∧ Step X s r χ w χ' w v := by
  unfold absShift at h
  split at h
  · split at h
    · rename_i n
      cases hb : Nat.ble n k.bits with
      | true =>
        simp only [hb, cond_true, Option.some.injEq] at h; subst h
        have hb : n ≤ k.bits := by simpa using hb
        refine ⟨.int k (k.wrap (x.ev χ.ρ * 2 ^ n)), χ, fun ty => ?_, Step.pure hg ?_⟩
        · have : min n k.bits = n := Nat.min_eq_left hb
          have hnn : ¬ ((n : Int) < 0) := by omega
          simp [binOp, Op.shift, T.ev, this, hnn]
        · show _ = Value.int _ _
          rw [T.fit_ev hg.iv, T.mulS_ev]; simp [T.ev]
      | false =>
        simp only [hb, cond_false, Option.some.injEq] at h; subst h
        obtain ⟨χ', hs⟩ := newK_ok hg k (kRange k) [] (k.wrap (x.ev χ.ρ * 2 ^ (min n k.bits))) (kRange_ok (wrap_range _ _))
        exact ⟨_, χ', fun ty => by have hnn : ¬ ((n : Int) < 0) := by omega
                                   simp [binOp, Op.shift, T.ev, hnn], hs⟩
    · simp only [Option.some.injEq] at h; subst h
      have hn := AS.need_ok hg hv
      simp only [Fm.holds, T.ev] at hn
      obtain ⟨χ', hs⟩ := newK_ok hg k (kRange k) (s.need (.le (.c 0) y)) (k.wrap (x.ev χ.ρ * 2 ^ (min (y.ev χ.ρ).toNat k.bits))) (kRange_ok (wrap_range _ _))
      exact ⟨_, χ', fun ty => by have : ¬ y.ev χ.ρ < 0 := by omega
                                 simp [binOp, Op.shift, this], hs⟩
  · split at h
    · rename_i n l h1 e
      cases hb : (Nat.ble n k.bits && ile 0 l) with
      | true =>
        simp only [hb, cond_true, Option.some.injEq] at h; subst h
        simp only [Bool.and_eq_true, Nat.ble_eq, ile_iff] at hb
        refine ⟨.int k ((x.ev χ.ρ).fdiv (2 ^ n)), χ, fun ty => ?_, Step.pure hg ?_⟩
        · have : min n k.bits = n := Nat.min_eq_left hb.1
          have hnn : ¬ ((n : Int) < 0) := by omega
          simp [binOp, Op.shift, T.ev, this, hnn]
        · show _ = Value.int _ _
          have hp : (0 : Int) ≤ 2 ^ n := by exact_mod_cast Nat.zero_le (2 ^ n)
          simp only [T.ev]; rw [Int.fdiv_eq_ediv_of_nonneg _ hp]; simp
      | false =>
        simp only [hb, cond_false, Option.some.injEq] at h; subst h
        have hx := T.ivl_ok hg.iv x _ _ e
        obtain ⟨χ', hs⟩ := newK_ok hg k (some (imin l 0, imax h1 0)) [] ((x.ev χ.ρ).fdiv (2 ^ (min n k.bits))) (fun lo hi e' => by
          simp only [Option.some.injEq, Prod.mk.injEq] at e'
          have r := fdiv_range (x.ev χ.ρ) (min n k.bits)
          have i1 := imin_le l 0
          have i2 := le_imax h1 0
          omega)
        exact ⟨_, χ', fun ty => by have hnn : ¬ ((n : Int) < 0) := by omega
                                   simp [binOp, Op.shift, T.ev, hnn], hs⟩
    · rename_i y y2 _ l h1 _ e
      cases hb : ile 0 l with
      | true =>
        simp only [hb, cond_true, Option.some.injEq] at h; subst h
        have hb := ile_iff.1 hb
        have hn := AS.need_ok hg hv
        simp only [Fm.holds, T.ev] at hn
        have hx := T.ivl_ok hg.iv x _ _ e
        obtain ⟨χ', hs⟩ := newK_ok hg k (some (0, h1)) (s.need (.le (.c 0) y)) ((x.ev χ.ρ).fdiv (2 ^ (min (y.ev χ.ρ).toNat k.bits))) (fun lo hi e' => by
          simp only [Option.some.injEq, Prod.mk.injEq] at e'
          have := fdiv_pow_range (n := min (y.ev χ.ρ).toNat k.bits) (show 0 ≤ x.ev χ.ρ by omega) hx.2
          omega)
        exact ⟨_, χ', fun ty => by have : ¬ y.ev χ.ρ < 0 := by omega
                                   simp [binOp, Op.shift, this], hs⟩
      | false =>
        simp only [hb, cond_false, Option.some.injEq] at h; subst h
        have hn := AS.need_ok hg hv
        simp only [Fm.holds, T.ev] at hn
        have hx := T.ivl_ok hg.iv x _ _ e
        obtain ⟨χ', hs⟩ := newK_ok hg k (some (imin l 0, imax h1 0)) (s.need (.le (.c 0) y)) ((x.ev χ.ρ).fdiv (2 ^ (min (y.ev χ.ρ).toNat k.bits))) (fun lo hi e' => by
          simp only [Option.some.injEq, Prod.mk.injEq] at e'
          have r := fdiv_range (x.ev χ.ρ) (min (y.ev χ.ρ).toNat k.bits)
          have i1 := imin_le l 0
          have i2 := le_imax h1 0
          omega)
        exact ⟨_, χ', fun ty => by have : ¬ y.ev χ.ρ < 0 := by omega
                                   simp [binOp, Op.shift, this], hs⟩
    · cases h
  · cases h

end Go.Sx

namespace Go.Sx
open Go

def newB (s : AS) (fs : List Fm) (vcs : List VC) : OR := { av := .pv (.one (.bool (.eq (.v s.nv) (.c 1)))), ivs := [some (0, 1)], fs := fs, vcs := vcs }

theorem newB_ok {X : Ctx} {s : AS} {χ : Chi} {a : Act} {w w' : World} (hg : gS X s χ a w) (hw : w' = w ∨ w' = w.drew) (fs : List Fm) (vcs : List VC) (b : Bool)
    (hf : ∀ ρ' : Val, (∀ i, i < s.nv → ρ' i = χ.ρ i) → ρ' s.nv = (if b then 1 else 0) → holdsAll ρ' fs) :
    ∃ χ', Step X s (newB s fs vcs) χ w χ' w' (.bool b) := by
  refine ⟨_, Step.new1 hg (if b then 1 else 0) hw ?_ ?_ hf⟩
  · intro ρ' _ hz'
    show _ = Value.bool _
    simp only [Fm.b, T.ev, Chi.withρ, hz']
    cases b <;> simp
  · intro lo hi e
    simp only [Option.some.injEq, Prod.mk.injEq] at e
    cases b <;> simp <;> omega

inductive SliceLike : SV → Prop
  | slice (fr E a b) : SliceLike (.slice fr E a b)
  | sslice (b n) : SliceLike (.sslice b n)
  | nilS : SliceLike .nilS

def isSliceLike : SV → Bool
  | .slice .. | .sslice .. | .nilS => true
  | _ => false
def isPtrLike : SV → Bool
  | .ptr .. | .wptr .. | .glob .. => true
  | _ => false

def SV.len : SV → Option T
  | .slice _ _ l _ => some l
  | .sslice _ n => some (.c n)
  | .nilS => some (.c 0)
  | _ => none

theorem sliceLike_val {P : Program} {χ : Chi} {x : SV} {v : Value} (h : isSliceLike x = true) (hg : gSV P χ x v) : ∃ ao l c, v = .slice ao l c ∧ (ao = none → l = 0) ∧ ∃ t, x.len = some t ∧ t.ev χ.ρ = (l : Int) := by
  cases x with
  | slice fr E a b =>
    obtain ⟨ao, l, c, hv, h1, h2, h3, h4, h5⟩ := hg
    refine ⟨ao, l, c, hv, ?_, a, rfl, h1.symm⟩
    intro e; subst e
    have : c = 0 := h5
    omega
  | sslice b n => exact ⟨_, _, _, hg, (fun e => by cases e), .c n, rfl, rfl⟩
  | nilS => exact ⟨_, _, _, hg, fun _ => rfl, .c 0, rfl, rfl⟩
  | _ => cases h

theorem ptrLike_val {P : Program} {χ : Chi} {x : SV} {v : Value} (h : isPtrLike x = true) (hg : gSV P χ x v) : ∃ ad, v = .pointer (some ad) := by
  cases x with
  | ptr b o => exact ⟨_, hg⟩
  | wptr fr cs => obtain ⟨b, o, hv, _⟩ := hg; exact ⟨_, hv⟩
  | glob g o => exact ⟨_, hg⟩
  | _ => cases h

def eqAns (op : BinOp) (b : Bool) : Option OR :=
  match op with
  | .eql => some { av := .pv (.one (.bool (bif b then .tt else .ff))) }
  | .neq => some { av := .pv (.one (.bool (bif b then .ff else .tt))) }
  | _ => none

def fmEq (f g : Fm) : Fm := .or (.and f g) (.and f.neg g.neg)

theorem fmEq_b (ρ : Val) (f g : Fm) : (fmEq f g).b ρ = (f.b ρ == g.b ρ) := by
  simp only [fmEq, Fm.b, Fm.neg_b]; cases f.b ρ <;> cases g.b ρ <;> rfl

def absBin (P : Program) (s : AS) (op : BinOp) (t : TypeId) (x y : Operand) : Option OR :=
  match s.osv x, s.osv y with
  | .int k a, .int k' b =>
    (match op with
     | .shl | .shr => absShift s op k a b
     | op => bif keq k k' then absInt2 s op k a b else none)
  | .bool f, .bool g =>
    (match P.underlying t, op with
     | some .bool, .eql => some { av := .pv (.one (.bool (fmEq f g))) }
     | some .bool, .neq => some { av := .pv (.one (.bool (fmEq f g).neg)) }
     | _, _ => none)
  | .str a, .str b =>
    (match op with
     | .add => some { av := .pv (.one (.str (T.addS a b))), vcs := s.need (.le (T.addS a b) (.c CB)) }
     | .eql => bif Nat.ble (max a.top b.top) s.nv then some (newB s [.or (.eq (.v s.nv) (.c 0)) (.eq a b)] []) else none
     | .neq => bif Nat.ble (max a.top b.top) s.nv then some (newB s [.or (.eq (.v s.nv) (.c 1)) (.eq a b)] []) else none
     | .lss | .leq | .gtr | .geq => some (newB s [] [])
     | _ => none)
  | .nilP, .nilP => (match P.underlying t with | some (.pointer _) => eqAns op true | _ => none)
  | .nilF, .nilF => (match P.underlying t with | some (.func ..) => eqAns op true | _ => none)
  | .func _ _, .nilF => (match P.underlying t with | some (.func ..) => eqAns op false | _ => none)
  | .nilF, .func _ _ => (match P.underlying t with | some (.func ..) => eqAns op false | _ => none)
  | a, .nilP => bif isPtrLike a then (match P.underlying t with | some (.pointer _) => eqAns op false | _ => none) else none
  | .nilP, b => bif isPtrLike b then (match P.underlying t with | some (.pointer _) => eqAns op false | _ => none) else none
  | .nilS, .nilS => (match P.underlying t with | some (.slice _) => eqAns op true | _ => none)
  | a, .nilS =>
    (match P.underlying t, a.len with
     | some (.slice _), some l =>
       bif isSliceLike a && Nat.ble l.top s.nv then
         (match op with
          | .eql => some (newB s [.or (.eq (.v s.nv) (.c 0)) (.eq l (.c 0))] [])
          | .neq => some (newB s [.or (.eq (.v s.nv) (.c 1)) (.eq l (.c 0))] [])
          | _ => none)
       else none
     | _, _ => none)
  | _, _ => none

theorem run_eqGuard {P : Program} {w : World} (op : BinOp) (t : TypeId) (x y : Operand) (u v : Value) (h : (match u with | .nilIface | .agg _ => false | _ => true) = true) : (eqGuard op t x y u v).run P w = .ok () w := by
  unfold eqGuard
  split
  · rw [if_neg (by decide)]
    cases u <;> first | rfl | (cases h)
  · rw [if_neg (by decide)]
    cases u <;> first | rfl | (cases h)
  · rfl

theorem run_bin {P : Program} {a : Act} {w : World} {o : Oper} {op : BinOp} {t yt : TypeId} {x y : Operand} {v : Value} {w' : World} (ho : o.op = .binOp op t x y yt)
    (h : (match a.eval x with | .nilIface | .agg _ => false | _ => true) = true) (hr : (binOp op t (a.eval x) (a.eval y)).run P w = .ok v w') : (execOp a.eval o).run P w = .ok (.value v) w' := by
  simp only [execOp, ho]
  simp [run_eqGuard op t x y _ (a.eval y) h, hr]

theorem run_eqlIn_ptr {P : Program} {w : World} {t e : TypeId} (d : Nat) (hu : P.underlying t = some (.pointer e)) (p q : Option Addr) (h : p = none ∨ q = none) :
    (Op.equalIn (d + 1) t (.pointer p) (.pointer q)).run P w = .ok (p.isNone && q.isNone) w := by
  simp only [Op.equalIn, Sem.run_bind, run_und hu, Result.andThen_ok]
  rcases h with rfl | rfl
  · cases q <;> rfl
  · cases p <;> rfl

theorem run_eqlIn_slice {P : Program} {w : World} {t e : TypeId} (d : Nat) (hu : P.underlying t = some (.slice e)) (p : Option Addr) (l c : Nat) :
    (Op.equalIn (d + 1) t (.slice p l c) (.slice none 0 0)).run P w = .ok p.isNone w := by
  simp only [Op.equalIn, Sem.run_bind, run_und hu, Result.andThen_ok]
  cases p <;> rfl

theorem run_eqlIn_bool {P : Program} {w : World} {t : TypeId} (d : Nat) (hu : P.underlying t = some .bool) (a b : Bool) : (Op.equalIn (d + 1) t (.bool a) (.bool b)).run P w = .ok (a == b) w := by
  simp only [Op.equalIn, Sem.run_bind, run_und hu, Result.andThen_ok]
  rfl

theorem run_eqlIn_func {P : Program} {w : World} {t : TypeId} {ps rs : Array TypeId} {vd : Bool} (d : Nat) (hu : P.underlying t = some (.func ps rs vd)) :
    (Op.equalIn (d + 1) t .nilFunc .nilFunc).run P w = .ok true w ∧ (∀ f a b, (Op.equalIn (d + 1) t (.func f a b) .nilFunc).run P w = .ok false w) ∧
      (∀ f a b, (Op.equalIn (d + 1) t .nilFunc (.func f a b)).run P w = .ok false w) := by
  refine ⟨?_, fun f a b => ?_, fun f a b => ?_⟩ <;>
  · simp only [Op.equalIn, Sem.run_bind, run_und hu, Result.andThen_ok]
    rfl

theorem run_eql_ptr {P : Program} {w : World} {t e : TypeId} (hu : P.underlying t = some (.pointer e)) (p q : Option Addr) (h : p = none ∨ q = none) :
    (Op.equal t (.pointer p) (.pointer q)).run P w = .ok (p.isNone && q.isNone) w := run_eqlIn_ptr 9999 hu p q h

theorem run_eql_slice {P : Program} {w : World} {t e : TypeId} (hu : P.underlying t = some (.slice e)) (p : Option Addr) (l c : Nat) :
    (Op.equal t (.slice p l c) (.slice none 0 0)).run P w = .ok p.isNone w := run_eqlIn_slice 9999 hu p l c

theorem run_eql_bool' {P : Program} {w : World} {t : TypeId} (hu : P.underlying t = some .bool) (a b : Bool) : (Op.equal t (.bool a) (.bool b)).run P w = .ok (a == b) w := run_eqlIn_bool 9999 hu a b

theorem run_eql_func {P : Program} {w : World} {t : TypeId} {ps rs : Array TypeId} {vd : Bool} (hu : P.underlying t = some (.func ps rs vd)) :
    (Op.equal t .nilFunc .nilFunc).run P w = .ok true w ∧ (∀ f a b, (Op.equal t (.func f a b) .nilFunc).run P w = .ok false w) ∧ (∀ f a b, (Op.equal t .nilFunc (.func f a b)).run P w = .ok false w) :=
  run_eqlIn_func 9999 hu

theorem eqAns_ok {X : Ctx} {s : AS} {op : BinOp} {b : Bool} {r : OR} (h : eqAns op b = some r) {χ : Chi} {a : Act} {w : World} (hg : gS X s χ a w) {t : TypeId} {u v : Value}
    (hr : (Op.equal t u v).run X.P w = .ok b w) (hb : ∀ op', op' = BinOp.eql ∨ op' = .neq → (binOp op' t u v) = (do let c ← Op.equal t u v; pure (.bool (if op' = .eql then c else !c)))) :
    ∃ z, (binOp op t u v).run X.P w = .ok z w ∧ Step X s r χ w χ w z := by
  unfold eqAns at h
  split at h
  · cases h
    refine ⟨.bool b, by rw [hb _ (.inl rfl)]; simp [hr], Step.pure hg ?_⟩
    show _ = Value.bool _
    cases b <;> rfl
  · cases h
    refine ⟨.bool (!b), by rw [hb _ (.inr rfl)]; simp [hr], Step.pure hg ?_⟩
    show _ = Value.bool _
    cases b <;> rfl
  · cases h

end Go.Sx

namespace Go.Sx
open Go

theorem strEq_len {a b : ByteArray} (h : (a.toList == b.toList) = true) : a.size = b.size := by
  have e : a.toList = b.toList := by simpa using h
  rw [ByteArray.toList_eq, ByteArray.toList_eq] at e
  show a.data.size = b.data.size
  rw [← Array.length_toList, ← Array.length_toList, e]

theorem binOp_ptr {op : BinOp} (h : op = .eql ∨ op = .neq) (t : TypeId) (p q : Option Addr) :
    binOp op t (.pointer p) (.pointer q) = (do let c ← Op.equal t (.pointer p) (.pointer q); pure (.bool (if op = .eql then c else !c))) := by
  rcases h with rfl | rfl <;> rfl

theorem binOp_slice {op : BinOp} (h : op = .eql ∨ op = .neq) (t : TypeId) (p : Option Addr) (l c : Nat) (q : Option Addr) (l' c' : Nat) :
    binOp op t (.slice p l c) (.slice q l' c') = (do let z ← Op.equal t (.slice p l c) (.slice q l' c'); pure (.bool (if op = .eql then z else !z))) := by
  rcases h with rfl | rfl <;> rfl

theorem binOp_func {op : BinOp} (h : op = .eql ∨ op = .neq) (t : TypeId) (u v : Value) (hu : (∃ f a b, u = .func f a b) ∨ u = .nilFunc) (hv : (∃ f a b, v = .func f a b) ∨ v = .nilFunc) :
    binOp op t u v = (do let c ← Op.equal t u v; pure (.bool (if op = .eql then c else !c))) := by
  rcases h with rfl | rfl <;> rcases hu with ⟨f, a, b, rfl⟩ | rfl <;> rcases hv with ⟨f', a', b', rfl⟩ | rfl <;> rfl

theorem binOp_str (op : BinOp) (t : TypeId) (a b : ByteArray) (h : op ≠ .shl ∧ op ≠ .shr) : binOp op t (.string a) (.string b) = Op.stringOp op a b := by
  cases op <;> first | rfl | simp at h

theorem binOp_bool {op : BinOp} (h : op = .eql ∨ op = .neq) (t : TypeId) (a b : Bool) :
    binOp op t (.bool a) (.bool b) = (do let c ← Op.equal t (.bool a) (.bool b); pure (.bool (if op = .eql then c else !c))) := by
  rcases h with rfl | rfl <;> rfl

theorem eqAns_op {op : BinOp} {b : Bool} {r : OR} (h : eqAns op b = some r) : op = .eql ∨ op = .neq := by
  unfold eqAns at h; split at h
  · exact .inl rfl
  · exact .inr rfl
  · cases h

theorem notAggNil_ptr (p : Option Addr) : (match (Value.pointer p) with | .nilIface | .agg _ => false | _ => true) = true := rfl

set_option maxHeartbeats 1000000 in
theorem absBin_ok {X : Ctx} {s : AS} {o : Oper} {op : BinOp} {t yt : TypeId} {x y : Operand} {r : OR} (ho : o.op = .binOp op t x y yt) (h : absBin X.P s op t x y = some r) : VOK X s o r := by
  intro χ a w hg hvc
  have hx := s.osv_ok hg x
  have hy := s.osv_ok hg y
  have fin : ∀ {v w' χ'}, (match a.eval x with | .nilIface | .agg _ => false | _ => true) = true → (binOp op t (a.eval x) (a.eval y)).run X.P w = .ok v w' → Step X s r χ w χ' w' v →
      ∃ v w' χ', (execOp a.eval o).run X.P w = .ok (.value v) w' ∧ Step X s r χ w χ' w' v := fun h1 h2 h3 => ⟨_, _, _, run_bin ho h1 h2, h3⟩
  unfold absBin at h
  split at h
  · -- integers
    rename_i k p k' q ex ey
    rw [ex] at hx; rw [ey] at hy
    simp only [gSV] at hx hy
    rw [hx, hy] at fin
    have hsh : ∀ op', op = op' → absShift s op' k p q = some r → ∃ v w' χ', (execOp a.eval o).run X.P w = .ok (.value v) w' ∧ Step X s r χ w χ' w' v := by
      intro op' e hs
      subst e
      obtain ⟨v, χ', hr, hst⟩ := absShift_ok (yk := k') hs hg hvc
      exact fin rfl (hr t) hst
    split at h
    · exact hsh _ rfl h
    · exact hsh _ rfl h
    · cases hk : keq k k' with
      | false => simp [hk] at h
      | true =>
        simp only [hk, cond_true] at h
        have := keq_eq hk; subst this
        obtain ⟨v, χ', hr, hst⟩ := absInt2_ok h hg hvc
        exact fin rfl (hr t) hst
  · -- bools
    rename_i f g ex ey
    rw [ex] at hx; rw [ey] at hy
    simp only [gSV] at hx hy
    rw [hx, hy] at fin
    split at h
    · rename_i hu
      cases h
      refine fin (v := .bool (f.b χ.ρ == g.b χ.ρ)) rfl (by rw [binOp_bool (.inl rfl)]; simp [run_eql_bool' hu]) (Step.pure hg ?_)
      show _ = Value.bool _; rw [fmEq_b]
    · rename_i hu
      cases h
      refine fin (v := .bool (!(f.b χ.ρ == g.b χ.ρ))) rfl (by rw [binOp_bool (.inr rfl)]; simp [run_eql_bool' hu]) (Step.pure hg ?_)
      show _ = Value.bool _; rw [Fm.neg_b, fmEq_b]
    · cases h
  · -- strings
    rename_i p q ex ey
    rw [ex] at hx; rw [ey] at hy
    obtain ⟨u, hu, hul⟩ := hx
    obtain ⟨v, hv, hvl⟩ := hy
    rw [hu, hv] at fin
    have cmp : ∀ (b : Bool), (Op.stringOp op u v).run X.P w = .ok (.bool b) w → (op ≠ .shl ∧ op ≠ .shr) → r = newB s [] [] → ∃ v w' χ', (execOp a.eval o).run X.P w = .ok (.value v) w' ∧ Step X s r χ w χ' w' v := by
      intro b hr hne hrr
      obtain ⟨χ', hs⟩ := newB_ok hg (.inl rfl) [] [] b (fun _ _ _ => trivial)
      rw [hrr] at fin ⊢
      exact fin rfl (by rw [binOp_str _ _ _ _ hne]; exact hr) hs
    split at h
    · cases h
      have hn := AS.need_ok hg hvc
      simp only [Fm.holds, T.addS_ev, T.ev] at hn
      have hle : ¬ (((u.size + v.size : Nat) : Int) > IntKind.i64.max) := by
        have : IntKind.i64.max = 9223372036854775807 := by decide
        have : (CB : Int) = 9223372036854775807 := rfl
        omega
      refine fin (v := .string (u ++ v)) rfl (by rw [binOp_str _ _ _ _ (by decide)]; simp only [Op.stringOp]; rw [if_neg hle]; rfl) (Step.pure hg ⟨u ++ v, rfl, ?_⟩)
      rw [T.addS_ev, ByteArray.size_append]; omega
    · cases hb : Nat.ble (max p.top q.top) s.nv with
      | false => simp [hb] at h
      | true =>
        simp only [hb, cond_true, Option.some.injEq] at h; subst h
        have hb : max p.top q.top ≤ s.nv := by simpa using hb
        obtain ⟨χ', hs⟩ := newB_ok hg (.inl rfl) [.or (.eq (.v s.nv) (.c 0)) (.eq p q)] [] (u.toList == v.toList) (fun ρ' hρ hz => by
          refine ⟨?_, trivial⟩
          simp only [Fm.holds, T.ev, hz]
          cases hc : (u.toList == v.toList) with
          | false => left; simp
          | true =>
            right
            have := strEq_len hc
            rw [T.ev_congr hρ p (by omega), T.ev_congr hρ q (by omega)]; omega)
        exact fin rfl (by rw [binOp_str _ _ _ _ (by decide)]; rfl) hs
    · cases hb : Nat.ble (max p.top q.top) s.nv with
      | false => simp [hb] at h
      | true =>
        simp only [hb, cond_true, Option.some.injEq] at h; subst h
        have hb : max p.top q.top ≤ s.nv := by simpa using hb
        obtain ⟨χ', hs⟩ := newB_ok hg (.inl rfl) [.or (.eq (.v s.nv) (.c 1)) (.eq p q)] [] (!(u.toList == v.toList)) (fun ρ' hρ hz => by
          refine ⟨?_, trivial⟩
          simp only [Fm.holds, T.ev, hz]
          cases hc : (u.toList == v.toList) with
          | false => left; simp
          | true =>
            right
            have := strEq_len hc
            rw [T.ev_congr hρ p (by omega), T.ev_congr hρ q (by omega)]; omega)
        exact fin rfl (by rw [binOp_str _ _ _ _ (by decide)]; rfl) hs
    · cases h; exact cmp _ rfl (by decide) rfl
    · cases h; exact cmp _ rfl (by decide) rfl
    · cases h; exact cmp _ rfl (by decide) rfl
    · cases h; exact cmp _ rfl (by decide) rfl
    · cases h
  · -- nil pointers
    rename_i ex ey
    rw [ex] at hx; rw [ey] at hy
    simp only [gSV] at hx hy
    rw [hx, hy] at fin
    split at h
    · rename_i hu
      obtain ⟨z, h1, h2⟩ := eqAns_ok h hg (run_eql_ptr hu none none (.inl rfl)) (fun op' ho' => binOp_ptr ho' _ _ _)
      exact fin rfl h1 h2
    · cases h
  · rename_i ex ey
    rw [ex] at hx; rw [ey] at hy
    simp only [gSV] at hx hy
    rw [hx, hy] at fin
    split at h
    · rename_i hu
      obtain ⟨z, h1, h2⟩ := eqAns_ok h hg (run_eql_func hu).1 (fun op' ho' => binOp_func ho' _ _ _ (.inr rfl) (.inr rfl))
      exact fin rfl h1 h2
    · cases h
  · rename_i f caps ex ey
    rw [ex] at hx; rw [ey] at hy
    obtain ⟨vs, hx, _⟩ := hx
    simp only [gSV] at hy
    rw [hx, hy] at fin
    split at h
    · rename_i hu
      obtain ⟨z, h1, h2⟩ := eqAns_ok h hg ((run_eql_func hu).2.1 _ _ _) (fun op' ho' => binOp_func ho' _ _ _ (.inl ⟨_, _, _, rfl⟩) (.inr rfl))
      exact fin rfl h1 h2
    · cases h
  · rename_i f caps ex ey
    rw [ex] at hx; rw [ey] at hy
    obtain ⟨vs, hy, _⟩ := hy
    simp only [gSV] at hx
    rw [hx, hy] at fin
    split at h
    · rename_i hu
      obtain ⟨z, h1, h2⟩ := eqAns_ok h hg ((run_eql_func hu).2.2 _ _ _) (fun op' ho' => binOp_func ho' _ _ _ (.inr rfl) (.inl ⟨_, _, _, rfl⟩))
      exact fin rfl h1 h2
    · cases h
  · have ey : s.osv y = .nilP := by assumption
    rw [ey] at hy
    simp only [gSV] at hy
    cases hp : isPtrLike (s.osv x) with
    | false => simp [hp] at h
    | true =>
      simp only [hp, cond_true] at h
      obtain ⟨ad, hx⟩ := ptrLike_val hp hx
      rw [hx, hy] at fin
      split at h
      · rename_i hu
        obtain ⟨z, h1, h2⟩ := eqAns_ok h hg (run_eql_ptr hu (some ad) none (.inr rfl)) (fun op' ho' => binOp_ptr ho' _ _ _)
        exact fin rfl h1 h2
      · cases h
  · have ex : s.osv x = .nilP := by assumption
    rw [ex] at hx
    simp only [gSV] at hx
    cases hp : isPtrLike (s.osv y) with
    | false => simp [hp] at h
    | true =>
      simp only [hp, cond_true] at h
      obtain ⟨ad, hy⟩ := ptrLike_val hp hy
      rw [hx, hy] at fin
      split at h
      · rename_i hu
        obtain ⟨z, h1, h2⟩ := eqAns_ok h hg (run_eql_ptr hu none (some ad) (.inl rfl)) (fun op' ho' => binOp_ptr ho' _ _ _)
        exact fin rfl h1 h2
      · cases h
  · rename_i ex ey
    rw [ex] at hx; rw [ey] at hy
    simp only [gSV] at hx hy
    rw [hx, hy] at fin
    split at h
    · rename_i hu
      obtain ⟨z, h1, h2⟩ := eqAns_ok h hg (run_eql_slice hu none 0 0) (fun op' ho' => binOp_slice ho' _ _ _ _ _ _ _)
      exact fin rfl h1 h2
    · cases h
  · have ey : s.osv y = .nilS := by assumption
    rw [ey] at hy
    simp only [gSV] at hy
    split at h
    · rename_i e l hu hl
      cases hb : (isSliceLike (s.osv x) && Nat.ble l.top s.nv) with
      | false => simp [hb] at h
      | true =>
        simp only [hb, cond_true] at h
        simp only [Bool.and_eq_true, Nat.ble_eq] at hb
        obtain ⟨ao, ln, cp, hxv, hnil, t', ht', hlen⟩ := sliceLike_val hb.1 hx
        rw [hl] at ht'; cases ht'
        rw [hxv, hy] at fin
        split at h
        · cases h
          obtain ⟨χ', hs⟩ := newB_ok hg (.inl rfl) [.or (.eq (.v s.nv) (.c 0)) (.eq l (.c 0))] [] ao.isNone (fun ρ' hρ hz => by
            refine ⟨?_, trivial⟩
            simp only [Fm.holds, T.ev, hz]
            cases ao with
            | none => right; rw [T.ev_congr hρ l hb.2, hlen, hnil rfl]; rfl
            | some ad => left; simp)
          exact fin rfl (by rw [binOp_slice (.inl rfl)]; simp [run_eql_slice hu]) hs
        · cases h
          obtain ⟨χ', hs⟩ := newB_ok hg (.inl rfl) [.or (.eq (.v s.nv) (.c 1)) (.eq l (.c 0))] [] (!ao.isNone) (fun ρ' hρ hz => by
            refine ⟨?_, trivial⟩
            simp only [Fm.holds, T.ev, hz]
            cases ao with
            | none => right; rw [T.ev_congr hρ l hb.2, hlen, hnil rfl]; rfl
            | some ad => left; simp)
          exact fin rfl (by rw [binOp_slice (.inr rfl)]; simp [run_eql_slice hu]) hs
        · cases h
    · cases h
  · cases h

end Go.Sx

namespace Go.Sx
open Go

def eqCk (P : Program) : Nat → TypeId → List SV → List SV → Bool
  | 0, _, _, _ => false
  | n + 1, t, l1, l2 =>
    match P.underlying t with
    | some (.int _) => (match l1, l2 with | [.int k _], [.int k' _] => keq k k' | _, _ => false)
    | some .bool => (match l1, l2 with | [.bool _], [.bool _] => true | _, _ => false)
    | some .string => (match l1, l2 with | [.str _], [.str _] => true | _, _ => false)
    | some (.struct fs) => !P.stoodInHeld t && fs.toList.all fun f => f.name == "_" || (match aggOf P f.type, sizeAt P f.type with
        | some agg, some sz =>
          Nat.ble (f.offset + bif agg then sz else 1) l1.length && (Nat.ble (f.offset + bif agg then sz else 1) l2.length &&
            eqCk P n f.type ((l1.drop f.offset).take (bif agg then sz else 1)) ((l2.drop f.offset).take (bif agg then sz else 1)))
        | _, _ => false)
    | some (.array len e) => (match aggOf P e, sizeAt P e with
        | some agg, some sz => (List.range len).all fun i =>
          Nat.ble (i * sz + bif agg then sz else 1) l1.length && (Nat.ble (i * sz + bif agg then sz else 1) l2.length &&
            eqCk P n e ((l1.drop (i * sz)).take (bif agg then sz else 1)) ((l2.drop (i * sz)).take (bif agg then sz else 1)))
        | _, _ => false)
    | _ => false

def ValOf (P : Program) (t : TypeId) (v : Value) (cs : Array Value) : Prop := ∃ agg, aggOf P t = some agg ∧ if agg then v = .agg cs else cs = #[v]

theorem run_part_val {P : Program} {w : World} {t : TypeId} {agg : Bool} {sz : Nat} (ha : aggOf P t = some agg) (hs : sizeAt P t = some sz) (cs : Array Value) (off : Nat)
    (hn : off + (bif agg then sz else 1) ≤ cs.size) : ∃ v, (part t cs off).run P w = .ok v w ∧ ValOf P t v (cs.extract off (off + (bif agg then sz else 1))) := by
  obtain ⟨v, h1, h2⟩ := run_part (w := w) ha hs cs off hn
  exact ⟨v, h1, agg, ha, h2⟩

theorem all2_one {α β : Type} {R : α → β → Prop} {x : α} {l : List β} (h : All2 R [x] l) : ∃ y, l = [y] ∧ R x y := by
  match l, h with
  | [y], h => exact ⟨y, rfl, h.1⟩

theorem forIn_early {P : Program} {w : World} {α : Type} (body : α → Option Bool × PUnit → Sem (ForInStep (Option Bool × PUnit))) : ∀ (l : List α),
    (∀ x ∈ l, (body x (none, ())).run P w = .ok (.done (some false, ())) w ∨ (body x (none, ())).run P w = .ok (.yield (none, ())) w) →
    (forIn l (none, ()) body).run P w = .ok (none, ()) w ∨ (forIn l (none, ()) body).run P w = .ok (some false, ()) w := by
  intro l
  induction l with
  | nil => intro _; exact .inl rfl
  | cons x l ih =>
    intro h
    rw [List.forIn_cons]
    rcases h x (by simp) with hb | hb
    · exact .inr (by simp [hb])
    · rcases ih fun y hy => h y (by simp [hy]) with hr | hr
      · exact .inl (by simp [hb, hr])
      · exact .inr (by simp [hb, hr])

theorem eqCk_ok {P : Program} {χ : Chi} {w : World} : ∀ (n d : Nat), n ≤ d → ∀ (t : TypeId) (l1 l2 : List SV) (v1 v2 : Value) (cs1 cs2 : Array Value), eqCk P n t l1 l2 = true → ValOf P t v1 cs1 → ValOf P t v2 cs2 →
    All2 (gSV P χ) l1 cs1.toList → All2 (gSV P χ) l2 cs2.toList → ∃ b, (Op.equalIn d t v1 v2).run P w = .ok b w := by
  intro n
  induction n with
  | zero => intro d _ t l1 l2 v1 v2 cs1 cs2 h; cases h
  | succ n ih =>
    intro d hd t l1 l2 v1 v2 cs1 cs2 h hv1 hv2 h1 h2
    obtain ⟨d, rfl⟩ : ∃ m, d = m + 1 := ⟨d - 1, by omega⟩
    have hd' : n ≤ d := by omega
    obtain ⟨agg, ha, hv1⟩ := hv1
    obtain ⟨agg', ha', hv2⟩ := hv2
    rw [ha] at ha'
    cases ha'
    have hag : ∀ {td}, P.underlying t = some td → agg = isAggD td := fun hu => by simp only [aggOf, hu, Option.map_some, Option.some.injEq] at ha; exact ha.symm
    simp only [eqCk] at h
    split at h
    · rename_i k0 hu
      have := hag hu
      simp only [isAggD] at this
      subst this
      simp only [Bool.false_eq_true, if_false] at hv1 hv2
      subst hv1; subst hv2
      split at h
      · rename_i k a k' b
        have := keq_eq h
        subst this
        obtain ⟨y, e1, g1⟩ := all2_one h1
        obtain ⟨z, e2, g2⟩ := all2_one h2
        cases e1; cases e2
        simp only [gSV] at g1 g2
        subst g1; subst g2
        exact ⟨_, by simp only [Op.equalIn, Sem.run_bind, run_und hu, Result.andThen_ok, if_true]; rfl⟩
      · cases h
    · rename_i hu
      have := hag hu
      simp only [isAggD] at this
      subst this
      simp only [Bool.false_eq_true, if_false] at hv1 hv2
      subst hv1; subst hv2
      split at h
      · obtain ⟨y, e1, g1⟩ := all2_one h1
        obtain ⟨z, e2, g2⟩ := all2_one h2
        cases e1; cases e2
        simp only [gSV] at g1 g2
        subst g1; subst g2
        exact ⟨_, run_eqlIn_bool d hu _ _⟩
      · cases h
    · rename_i hu
      have := hag hu
      simp only [isAggD] at this
      subst this
      simp only [Bool.false_eq_true, if_false] at hv1 hv2
      subst hv1; subst hv2
      split at h
      · obtain ⟨y, e1, g1⟩ := all2_one h1
        obtain ⟨z, e2, g2⟩ := all2_one h2
        cases e1; cases e2
        obtain ⟨u, rfl, _⟩ := g1
        obtain ⟨u', rfl, _⟩ := g2
        exact ⟨_, by simp only [Op.equalIn, Sem.run_bind, run_und hu, Result.andThen_ok]; rfl⟩
      · cases h
    · rename_i fs hu
      have := hag hu
      simp only [isAggD] at this
      subst this
      simp only [if_true] at hv1 hv2
      subst hv1; subst hv2
      simp only [Bool.and_eq_true, Bool.not_eq_true', List.all_eq_true] at h
      obtain ⟨hst, hall⟩ := h
      have key : ∀ f ∈ fs.toList, f.name ≠ "_" → ∃ u1 u2 b, (part f.type cs1 f.offset).run P w = .ok u1 w ∧ (part f.type cs2 f.offset).run P w = .ok u2 w ∧ (Op.equalIn d f.type u1 u2).run P w = .ok b w := by
        intro f hf hnm
        have := hall f hf
        simp only [Bool.or_eq_true, beq_iff_eq, hnm, false_or] at this
        split at this
        · rename_i agg sz ha hs
          simp only [Bool.and_eq_true, Nat.ble_eq] at this
          obtain ⟨k1, k2, k3⟩ := this
          have s1 := h1.length
          have s2 := h2.length
          simp only [Array.length_toList] at s1 s2
          obtain ⟨u1, r1, q1⟩ := run_part_val (w := w) ha hs cs1 f.offset (by omega)
          obtain ⟨u2, r2, q2⟩ := run_part_val (w := w) ha hs cs2 f.offset (by omega)
          obtain ⟨b, hb⟩ := ih d hd' f.type _ _ u1 u2 _ _ k3 q1 q2 (by rw [extract_toList]; exact all2_take _ (all2_drop _ h1)) (by rw [extract_toList]; exact all2_take _ (all2_drop _ h2))
          exact ⟨u1, u2, b, r1, r2, hb⟩
        · cases this
      simp only [Op.equalIn, Sem.run_bind, run_und hu, Result.andThen_ok, run_program, hst, Bool.false_eq_true, if_false]
      rw [← Array.forIn_toList]
      have hf := forIn_early (P := P) (w := w) (fun (f : Field) (_ : Option Bool × PUnit) => (if f.name ≠ "_" then (do
                let a ← part f.type cs1 f.offset
                let b ← part f.type cs2 f.offset
                let c ← Op.equalIn d f.type a b
                if (!c) = true then pure (ForInStep.done (some false, ()))
                  else pure (ForInStep.yield (none, ())))
              else pure (ForInStep.yield (none, ())) : Sem (ForInStep (Option Bool × PUnit)))) fs.toList (fun f hf => by
        by_cases hnm : f.name = "_"
        · exact .inr (by simp [hnm])
        · obtain ⟨u1, u2, b, r1, r2, r3⟩ := key f hf hnm
          cases b with
          | true => exact .inr (by simp [hnm, r1, r2, r3])
          | false => exact .inl (by simp [hnm, r1, r2, r3]))
      rcases hf with hf | hf
      · exact ⟨true, by rw [hf]; rfl⟩
      · exact ⟨false, by rw [hf]; rfl⟩
    · rename_i len e hu
      have := hag hu
      simp only [isAggD] at this
      subst this
      simp only [if_true] at hv1 hv2
      subst hv1; subst hv2
      split at h
      rotate_left
      · cases h
      rename_i agg sz ha hs
      simp only [List.all_eq_true] at h
      have key : ∀ i ∈ List.range' 0 len 1, ∃ u1 u2 b, (part e cs1 (i * sz)).run P w = .ok u1 w ∧ (part e cs2 (i * sz)).run P w = .ok u2 w ∧ (Op.equalIn d e u1 u2).run P w = .ok b w := by
        intro i hi
        have := h i (by simpa [List.range_eq_range'] using hi)
        simp only [Bool.and_eq_true, Nat.ble_eq] at this
        obtain ⟨k1, k2, k3⟩ := this
        have s1 := h1.length
        have s2 := h2.length
        simp only [Array.length_toList] at s1 s2
        obtain ⟨u1, r1, q1⟩ := run_part_val (w := w) ha hs cs1 (i * sz) (by omega)
        obtain ⟨u2, r2, q2⟩ := run_part_val (w := w) ha hs cs2 (i * sz) (by omega)
        obtain ⟨b, hb⟩ := ih d hd' e _ _ u1 u2 _ _ k3 q1 q2 (by rw [extract_toList]; exact all2_take _ (all2_drop _ h1)) (by rw [extract_toList]; exact all2_take _ (all2_drop _ h2))
        exact ⟨u1, u2, b, r1, r2, hb⟩
      simp only [Op.equalIn, Sem.run_bind, run_und hu, Result.andThen_ok, run_sizeAt hs]
      have hf := forIn_early (P := P) (w := w) (fun (i : Nat) (_ : Option Bool × PUnit) => (do
                let a ← part e cs1 (i * sz)
                let b ← part e cs2 (i * sz)
                let c ← Op.equalIn d e a b
                if (!c) = true then pure (ForInStep.done (some false, ()))
                  else pure (ForInStep.yield (none, ())) : Sem (ForInStep (Option Bool × PUnit)))) (List.range' 0 len 1) (fun i hi => by
        obtain ⟨u1, u2, b, r1, r2, r3⟩ := key i hi
        cases b with
        | true => exact .inr (by simp [r1, r2, r3])
        | false => exact .inl (by simp [r1, r2, r3]))
      simp only [Std.Legacy.Range.forIn_eq_forIn_range', Std.Legacy.Range.size, Nat.sub_zero, Nat.add_one_sub_one, Nat.div_one]
      rcases hf with hf | hf
      · exact ⟨true, by rw [hf]; rfl⟩
      · exact ⟨false, by rw [hf]; rfl⟩
    · cases h

def absBinA (P : Program) (s : AS) (op : BinOp) (t : TypeId) (x y : Operand) : Option OR :=
  match s.opd x, s.opd y with
  | .pv (.agg l1), .pv (.agg l2) =>
    (match op with
     | .eql | .neq => bif eqCk P 30 t l1 l2 && (match aggOf P t with | some b => b | none => false) && !(P.eqGuardType P.depth t) then some (newB s [] []) else none
     | _ => none)
  | _, _ => none

theorem binOp_agg {op : BinOp} (h : op = .eql ∨ op = .neq) (t : TypeId) (a b : Array Value) :
    binOp op t (.agg a) (.agg b) = (do let c ← Op.equal t (.agg a) (.agg b); pure (.bool (if op = .eql then c else !c))) := by
  rcases h with rfl | rfl <;> rfl

theorem run_eqGuard_agg {P : Program} {w : World} (op : BinOp) (t : TypeId) (x y : Operand) (a b : Array Value) (h : P.eqGuardType P.depth t = false) : (eqGuard op t x y (.agg a) (.agg b)).run P w = .ok () w := by
  unfold eqGuard
  split
  · rw [if_neg (by decide)]; simp [h]
  · rw [if_neg (by decide)]; simp [h]
  · rfl

theorem absBinA_ok {X : Ctx} {s : AS} {o : Oper} {op : BinOp} {t yt : TypeId} {x y : Operand} {r : OR} (ho : o.op = .binOp op t x y yt) (h : absBinA X.P s op t x y = some r) : VOK X s o r := by
  intro χ a w hg hvc
  have hx := s.opd_ok hg x
  have hy := s.opd_ok hg y
  unfold absBinA at h
  split at h
  rotate_left
  · cases h
  rename_i l1 l2 e1 e2
  rw [e1] at hx; rw [e2] at hy
  obtain ⟨cs1, hv1, h1, _⟩ := hx
  obtain ⟨cs2, hv2, h2, _⟩ := hy
  have main : (op = .eql ∨ op = .neq) → (bif eqCk X.P 30 t l1 l2 && (match aggOf X.P t with | some b => b | none => false) && !(X.P.eqGuardType X.P.depth t) then some (newB s [] []) else none) = some r → ∃ v w' χ', (execOp a.eval o).run X.P w = .ok (.value v) w' ∧ Step X s r χ w χ' w' v := by
    intro hop hb
    cases hc : (eqCk X.P 30 t l1 l2 && (match aggOf X.P t with | some b => b | none => false) && !(X.P.eqGuardType X.P.depth t)) with
    | false => rw [hc] at hb; cases hb
    | true =>
      rw [hc] at hb
      simp only [cond_true, Option.some.injEq] at hb
      subst hb
      simp only [Bool.and_eq_true, Bool.not_eq_true'] at hc
      obtain ⟨⟨k1, k2⟩, k3⟩ := hc
      have ha : aggOf X.P t = some true := by
        split at k2
        · rename_i b hb; rw [hb, k2]
        · cases k2
      obtain ⟨b, hb⟩ := eqCk_ok (w := w) 30 10000 (by omega) t l1 l2 (.agg cs1) (.agg cs2) cs1 cs2 k1 ⟨true, ha, by simp⟩ ⟨true, ha, by simp⟩ h1 h2
      obtain ⟨χ', hs⟩ := newB_ok hg (.inl rfl) [] [] (if op = .eql then b else !b) (fun _ _ _ => trivial)
      refine ⟨_, w, χ', ?_, hs⟩
      have hb' : (Op.equal t (.agg cs1) (.agg cs2)).run X.P w = .ok b w := hb
      simp only [execOp, ho, hv1, hv2]
      rw [binOp_agg hop]
      simp [run_eqGuard_agg op t x y cs1 cs2 k3, hb']
  split at h
  · exact main (.inl rfl) h
  · exact main (.inr rfl) h
  · cases h

end Go.Sx

namespace Go.Sx
open Go

def absUn (s : AS) (op : UnOp) (x : Operand) : Option OR :=
  match op, s.osv x with
  | .not, .bool f => some { av := .pv (.one (.bool f.neg)) }
  | .neg, .int k t => some { av := .pv (.one (.int k ((T.subS (.c 0) t).fit s.iv k))) }
  | .xor, .int k _ => some (newK s k (kRange k) [])
  | _, _ => none

theorem absUn_ok {X : Ctx} {s : AS} {o : Oper} {op : UnOp} {t : TypeId} {x : Operand} {r : OR} (ho : o.op = .unOp op t x) (h : absUn s op x = some r) : VOK X s o r := by
  intro χ a w hg _
  have hx := s.osv_ok hg x
  unfold absUn at h
  split at h
  · rename_i f e
    rw [e] at hx; cases h
    simp only [gSV] at hx
    refine ⟨.bool (!f.b χ.ρ), w, χ, by simp [execOp, ho, hx, Op.unary], Step.pure hg ?_⟩
    show _ = Value.bool _; rw [Fm.neg_b]
  · rename_i k t e
    rw [e] at hx; cases h
    simp only [gSV] at hx
    refine ⟨.int k (k.wrap (0 - t.ev χ.ρ)), w, χ, by simp [execOp, ho, hx, Op.unary, Op.intArith], Step.pure hg ?_⟩
    show _ = Value.int _ _; rw [T.fit_ev hg.iv, T.subS_ev]; simp [T.ev]
  · rename_i k t e
    rw [e] at hx; cases h
    simp only [gSV] at hx
    obtain ⟨χ', hs⟩ := newK_ok hg k (kRange k) [] (k.wrap (BitVec.ofInt k.bits (if k.signed then -1 else k.max) ^^^ BitVec.ofInt k.bits (t.ev χ.ρ)).toNat) (kRange_ok (wrap_range _ _))
    exact ⟨_, w, χ', by simp [execOp, ho, hx, Op.unary, Op.intBits], hs⟩
  · cases h

def absMakeFunc (s : AS) (f : Fn) (first caps : Array Operand) : Option OR :=
  match f, first.toList with
  | .func f, [] =>
    match caps.toList.mapM (fun x => match s.osv x with | .ptr b o => some (Cap.st b o) | .wptr fr cs => some (Cap.wk fr cs) | _ => none) with
    | some l => some { av := .pv (.one (.func f l)) }
    | none => none
  | _, _ => none

theorem caps_ok {X : Ctx} {s : AS} {χ : Chi} {a : Act} {w : World} (hg : gS X s χ a w) : ∀ (l : List Operand) (ps : List Cap),
    l.mapM (fun x => match s.osv x with | .ptr b o => some (Cap.st b o) | .wptr fr cs => some (Cap.wk fr cs) | _ => none) = some ps → All2 (capOK χ) ps (l.map a.eval) := by
  intro l
  induction l with
  | nil => intro ps h; simp at h; subst h; trivial
  | cons x l ih =>
    intro ps h
    simp only [List.mapM_cons] at h
    have hx := s.osv_ok hg x
    cases e : s.osv x with
    | ptr b o =>
      rw [e] at hx
      simp only [e] at h
      cases hm : l.mapM (fun x => match s.osv x with | .ptr b o => some (Cap.st b o) | .wptr fr cs => some (Cap.wk fr cs) | _ => none) with
      | none => rw [hm] at h; simp at h
      | some qs => rw [hm] at h; simp at h; subst h; exact ⟨hx, ih qs hm⟩
    | wptr fr cs =>
      rw [e] at hx
      simp only [e] at h
      cases hm : l.mapM (fun x => match s.osv x with | .ptr b o => some (Cap.st b o) | .wptr fr cs => some (Cap.wk fr cs) | _ => none) with
      | none => rw [hm] at h; simp at h
      | some qs => rw [hm] at h; simp at h; subst h; exact ⟨hx, ih qs hm⟩
    | _ => simp [e] at h

theorem absMakeFunc_ok {X : Ctx} {s : AS} {o : Oper} {f : Fn} {first caps : Array Operand} {r : OR} (ho : o.op = .makeFunc f first caps) (h : absMakeFunc s f first caps = some r) : VOK X s o r := by
  intro χ a w hg _
  unfold absMakeFunc at h
  split at h
  · rename_i f hf
    split at h
    · rename_i l hl
      cases h
      have hf' : first = #[] := Array.ext' (by simpa using hf)
      refine ⟨.func (.func f) #[] (caps.map a.eval), w, χ, by simp [execOp, ho, hf', Instr.makeFunc], Step.pure hg ⟨_, rfl, ?_⟩⟩
      rw [Array.toList_map]; exact caps_ok hg _ _ hl
    · cases h
  · cases h

def absMakeIface (P : Program) (t : TypeId) : Option OR :=
  match P.underlying t with
  | some (.interface _) => none
  | some _ => some { av := .pv (.one .top) }
  | none => none

theorem absMakeIface_ok {X : Ctx} {s : AS} {o : Oper} {t : TypeId} {x : Operand} {r : OR} (ho : o.op = .makeInterface t x) (h : absMakeIface X.P t = some r) : VOK X s o r := by
  intro χ a w hg _
  unfold absMakeIface at h
  split at h
  · cases h
  · rename_i d hni hu
    cases h
    refine ⟨.iface t (a.eval x), w, χ, ?_, Step.pure hg trivial⟩
    simp only [execOp, ho, Sem.run_bind]
    have : (Instr.makeInterface t (a.eval x)).run X.P w = .ok (.iface t (a.eval x)) w := by
      unfold Instr.makeInterface
      rw [Sem.run_bind, run_und hu]
      cases d <;> first | rfl | (exact (hni _ rfl).elim)
    simp [this]
  · cases h

def splL {α : Type} (l : List α) (o : Nat) (vs : List α) : List α := l.take o ++ (vs ++ l.drop (o + vs.length))

theorem spl_toList (cs : Array Value) (o : Nat) (vs : List Value) (h : o + vs.length ≤ cs.size) : (spl cs o vs).toList = splL cs.toList o vs := by
  apply List.ext_getElem?
  intro i
  have := spl_get vs cs o i h
  rw [Array.getElem?_toList, this]
  have hl : (cs.toList.take o).length = o := by simp; omega
  simp only [splL]
  by_cases h1 : o ≤ i ∧ i < o + vs.length
  · rw [if_pos h1, List.getElem?_append_right (by omega), hl, List.getElem?_append_left (by omega)]
  · rw [if_neg h1]
    by_cases h2 : i < o
    · rw [List.getElem?_append_left (by omega), List.getElem?_take, if_pos h2, Array.getElem?_toList]
    · rw [List.getElem?_append_right (by omega), hl, List.getElem?_append_right (by omega), List.getElem?_drop, Array.getElem?_toList]
      congr 1; omega

theorem all2_append {α β : Type} {R : α → β → Prop} : ∀ {l : List α} {m : List β} {l' : List α} {m' : List β}, All2 R l m → All2 R l' m' → All2 R (l ++ l') (m ++ m') := by
  intro l
  induction l with
  | nil => intro m l' m' h h'; cases m with
    | nil => simpa using h'
    | cons b m => exact h.elim
  | cons a l ih => intro m l' m' h h'; cases m with
    | nil => exact h.elim
    | cons b m => exact ⟨h.1, ih h.2 h'⟩

theorem all2_splL {α β : Type} {R : α → β → Prop} {l : List α} {m : List β} {l' : List α} {m' : List β} (o : Nat) (h : All2 R l m) (h' : All2 R l' m') : All2 R (splL l o l') (splL m o m') := by
  unfold splL
  rw [h'.length]
  exact all2_append (all2_take o h) (all2_append h' (all2_drop _ h))

theorem foldl_spl : ∀ (vs : List Value) (k o : Nat) (cs : Array Value), (vs.zipIdx k).foldl (fun cs (p : Value × Nat) => cs.setIfInBounds (o + p.2) p.1) cs = spl cs (o + k) vs := by
  intro vs
  induction vs with
  | nil => intro k o cs; rfl
  | cons v vs ih => intro k o cs; simp only [List.zipIdx_cons, List.foldl_cons, spl]; rw [ih]; rfl

theorem fill_step (place : Nat → Option (Nat × Nat)) (cells : Array Value) (i : Nat) (v : Value) (rest : List (Nat × Value)) (off size : Nat) (hp : place i = some (off, size))
    (hs : v.cells.size = size) (ho : off + size ≤ cells.size) : Instr.fill place cells ((i, v) :: rest) = Instr.fill place (spl cells off v.cells.toList) rest := by
  have hcond : ¬ ((decide (v.cells.size ≠ size) || decide (off + v.cells.size > cells.size)) = true) := by
    simp [hs]; omega
  simp only [Instr.fill, hp]
  have e : Array.foldl (fun cs (x : Value × Nat) => cs.setIfInBounds (off + x.snd) x.fst) cells v.cells.zipIdx = spl cells off v.cells.toList := by
    rw [← Array.foldl_toList, Array.toList_zipIdx]
    exact foldl_spl _ 0 off cells
  rw [if_neg hcond]
  exact congrArg (fun c => Instr.fill place c rest) e

def absFill (s : AS) (place : Nat → Option (Nat × Nat)) : List (Nat × Operand) → List SV → Option (List SV)
  | [], cells => some cells
  | (i, x) :: rest, cells =>
    match place i, (s.opd x).cells with
    | some (off, size), some l => bif Nat.beq l.length size && Nat.ble (off + size) cells.length then absFill s place rest (splL cells off l) else none
    | _, _ => none

theorem absFill_ok {X : Ctx} {s : AS} {χ : Chi} {a : Act} {w : World} (hg : gS X s χ a w) {place : Nat → Option (Nat × Nat)} : ∀ (parts : List (Nat × Operand)) (cells r : List SV) (cs : Array Value),
    absFill s place parts cells = some r → All2 (gSV X.P χ) cells cs.toList → (∀ x ∈ cs.toList, x.oneCell' = true) →
    ∃ cs', Instr.fill place cs (parts.map fun p => (p.1, a.eval p.2)) = some cs' ∧ All2 (gSV X.P χ) r cs'.toList ∧ (∀ x ∈ cs'.toList, x.oneCell' = true) ∧ cs'.size = cs.size := by
  intro parts
  induction parts with
  | nil => intro cells r cs h h2 h1; simp only [absFill, Option.some.injEq] at h; subst h; exact ⟨cs, rfl, h2, h1, rfl⟩
  | cons p parts ih =>
    intro cells r cs h h2 h1
    obtain ⟨i, x⟩ := p
    simp only [absFill] at h
    split at h
    · rename_i off size l hp hl
      cases hb : (Nat.beq l.length size && Nat.ble (off + size) cells.length) with
      | false => simp [hb] at h
      | true =>
        simp only [hb, cond_true] at h
        simp only [Bool.and_eq_true, Nat.ble_eq] at hb
        have hls : l.length = size := by simpa using hb.1
        obtain ⟨hc2, hc1⟩ := AV.cells_ok (s.opd_ok hg x) hl
        have hsz : (a.eval x).cells.size = size := by have := hc2.length; simp at this; omega
        have hcs : off + size ≤ cs.size := by have := h2.length; simp at this; omega
        have hlen : off + (a.eval x).cells.toList.length ≤ cs.size := by simp; omega
        obtain ⟨cs', hf, r2, r1, rs⟩ := ih _ _ (spl cs off (a.eval x).cells.toList) h (by rw [spl_toList _ _ _ hlen]; exact all2_splL off h2 hc2) (by
          rw [spl_toList _ _ _ hlen]
          intro y hy
          simp only [splL, List.mem_append] at hy
          rcases hy with hy | hy | hy
          · exact h1 y (List.mem_of_mem_take hy)
          · exact hc1 y hy
          · exact h1 y (List.mem_of_mem_drop hy))
        refine ⟨cs', ?_, r2, r1, by rw [rs, spl_size]⟩
        simp only [List.map_cons]
        rw [fill_step place cs i (a.eval x) _ off size hp hsz hcs]
        exact hf
    · cases h

def structPlaces (P : Program) (fs : List Field) : Option (List (Nat × Nat)) := fs.mapM fun f => (sizeAt P f.type).map fun sz => (f.offset, sz)

theorem run_places {P : Program} {w : World} : ∀ (fs : List Field) (l : List (Nat × Nat)), structPlaces P fs = some l →
    (fs.mapM fun f => (do Pure.pure (f.offset, ← sizeOf f.type) : Sem (Nat × Nat))).run P w = .ok l w := by
  intro fs
  induction fs with
  | nil => intro l h; simp [structPlaces] at h; subst h; rfl
  | cons f fs ih =>
    intro l h
    simp only [structPlaces, List.mapM_cons] at h
    cases hs : sizeAt P f.type with
    | none => simp [hs] at h
    | some sz =>
      simp only [hs, Option.map_some] at h
      cases hm : structPlaces P fs with
      | none => simp [structPlaces] at hm; simp [hm] at h
      | some l' =>
        have hm' := hm
        simp only [structPlaces] at hm
        rw [hm] at h
        simp at h
        subst h
        simp only [List.mapM_cons, Sem.run_bind, run_sizeAt hs, Result.andThen_ok, Sem.run_pure, ih l' hm']

def absBuild (P : Program) (s : AS) (t : TypeId) (parts : Array (Nat × Operand)) : Option OR :=
  match zeroAt P t with
  | some z =>
    bif z.cells.toList.all (·.oneCell') then
      match P.underlying t with
      | some (.struct fs) =>
        match structPlaces P fs.toList with
        | some pl => match absFill s (fun i => pl[i]?) parts.toList (z.cells.toList.map constSV) with
          | some l => some { av := .pv (.agg l) }
          | none => none
        | none => none
      | some (.array _ e) =>
        match sizeAt P e with
        | some sz => match absFill s (fun i => some (i * sz, sz)) parts.toList (z.cells.toList.map constSV) with
          | some l => some { av := .pv (.agg l) }
          | none => none
        | none => none
      | _ => none
    else none
  | none => none

theorem absBuild_ok {X : Ctx} {s : AS} {o : Oper} {t : TypeId} {parts : Array (Nat × Operand)} {r : OR} (ho : o.op = .build t parts) (h : absBuild X.P s t parts = some r) : VOK X s o r := by
  intro χ a w hg _
  unfold absBuild at h
  split at h
  rotate_left
  · cases h
  rename_i z hz
  cases hall : z.cells.toList.all (·.oneCell') with
  | false => simp [hall] at h
  | true =>
    simp only [hall, cond_true] at h
    have h1 := List.all_eq_true.1 hall
    have h2 := all2_map_const X.P χ z.cells.toList
    have hmap : (parts.map fun (p : Nat × Operand) => (p.1, a.eval p.2)).toList = parts.toList.map fun p => (p.1, a.eval p.2) := by simp
    split at h
    · rename_i fs hu
      split at h
      rotate_left
      · cases h
      rename_i pl hpl
      split at h
      rotate_left
      · cases h
      rename_i l hl
      cases h
      obtain ⟨cs', hf, r2, r1, _⟩ := absFill_ok hg _ _ _ _ hl h2 h1
      refine ⟨.agg cs', w, χ, ?_, Step.pure hg ⟨cs', rfl, r2, r1⟩⟩
      have hp := run_places (w := w) _ _ hpl
      have hp2 : (fs.mapM fun f => (do Pure.pure (f.offset, ← sizeOf f.type) : Sem (Nat × Nat))).run X.P w = .ok pl.toArray w := by
        rw [Array.mapM_eq_mapM_toList]; simp only [Sem.run_map, hp, Result.andThen_ok]
      have hf' : Instr.fill (fun i => pl.toArray[i]?) z.cells (parts.map fun (p : Nat × Operand) => (p.1, a.eval p.2)).toList = some cs' := by rw [hmap]; simpa using hf
      simp only [execOp, ho, Instr.build, Sem.run_bind, run_zeroAt hz, Result.andThen_ok, run_und hu, hp2, hf']
      rfl
    · rename_i n e hu
      split at h
      rotate_left
      · cases h
      rename_i sz hsz
      split at h
      rotate_left
      · cases h
      rename_i l hl
      cases h
      obtain ⟨cs', hf, r2, r1, _⟩ := absFill_ok hg _ _ _ _ hl h2 h1
      refine ⟨.agg cs', w, χ, ?_, Step.pure hg ⟨cs', rfl, r2, r1⟩⟩
      have hf' : Instr.fill (fun i => some (i * sz, sz)) z.cells (parts.map fun (p : Nat × Operand) => (p.1, a.eval p.2)).toList = some cs' := by rw [hmap]; exact hf
      simp only [execOp, ho, Instr.build, Sem.run_bind, run_zeroAt hz, Result.andThen_ok, run_und hu, run_sizeAt hsz, hf']
      rfl
    · cases h

end Go.Sx

namespace Go.Sx
open Go

def constFit : Value → CT → Bool
  | .int k n, .int k' lo hi => keq k k' && ile lo n && ile n hi
  | .bool _, .bool => true
  | .string s, .str => Nat.ble s.size LB
  | .slice none 0 0, .slice _ => true
  | .slice none 0 0, .sliceB _ _ => true
  | v, .any => v.oneCell'
  | _, _ => false

theorem constFit_ok {P : Program} {χ : Chi} {S : Nat → Prop} {v : Value} {ct : CT} (h : constFit v ct = true) : CellOK P χ S ct v := by
  unfold constFit at h
  split at h
  · simp only [Bool.and_eq_true, ile_iff] at h
    have := keq_eq h.1.1; subst this
    exact ⟨_, rfl, h.1.2, h.2⟩
  · exact ⟨_, rfl⟩
  · exact ⟨_, rfl, by simpa using h⟩
  · exact ⟨none, 0, 0, rfl, Nat.le_refl _, Nat.zero_le _, Nat.zero_le _, rfl⟩
  · exact ⟨none, 0, 0, rfl, Nat.le_refl _, Nat.zero_le _, Nat.zero_le _, rfl⟩
  · exact h
  · cases h

def constFitL : List Value → List CT → Bool
  | [], [] => true
  | v :: l, c :: m => constFit v c && constFitL l m
  | _, _ => false

theorem constFitL_get : ∀ {l : List Value} {m : List CT}, constFitL l m = true → ∀ {i : Nat} {c : CT}, m[i]? = some c → ∃ v, l[i]? = some v ∧ constFit v c = true := by
  intro l
  induction l with
  | nil => intro m h i c hc; cases m with
    | nil => simp at hc
    | cons b m => cases h
  | cons v l ih =>
    intro m h i c hc
    cases m with
    | nil => cases h
    | cons b m =>
      simp only [constFitL, Bool.and_eq_true] at h
      cases i with
      | zero => simp at hc; subst hc; exact ⟨v, by simp, h.1⟩
      | succ i => simp at hc; obtain ⟨u, hu, hf⟩ := ih h.2 hc; exact ⟨u, by simpa using hu, hf⟩

theorem constFitL_len : ∀ {l : List Value} {m : List CT}, constFitL l m = true → l.length = m.length := by
  intro l
  induction l with
  | nil => intro m h; cases m with
    | nil => rfl
    | cons b m => cases h
  | cons v l ih => intro m h; cases m with
    | nil => cases h
    | cons b m => simp only [constFitL, Bool.and_eq_true] at h; simp [ih h.2]

def perK (cts : List CT) (n : Nat) : Nat → Option CT := fun i => if i < n * cts.length then cts[i % cts.length]? else none

theorem perK_typed {P : Program} {χ : Chi} {S : Nat → Prop} {cts : List CT} {n : Nat} {cs : Array Value} (hs : cs.size = n * cts.length)
    (h : ∀ i v ct, cs[i]? = some v → cts[i % cts.length]? = some ct → CellOK P χ S ct v) : TypedBy P χ S cs (perK cts n) := by
  intro i
  by_cases hi : i < n * cts.length
  · have h1 : i < cs.size := by omega
    have h2 : i % cts.length < cts.length := Nat.mod_lt _ (by rcases Nat.eq_zero_or_pos cts.length with e | e
                                                              · rw [e] at hi; omega
                                                              · exact e)
    simp only [perK, hi, if_true, List.getElem?_eq_getElem h2, Array.getElem?_eq_getElem h1]
    exact h i _ _ (Array.getElem?_eq_getElem h1) (List.getElem?_eq_getElem h2)
  · simp only [perK, hi, if_false, Array.getElem?_eq_none (show cs.size ≤ i by omega)]

theorem perK_row {χ : Chi} {w : World} {cts : List CT} {n : Nat} {fr : Bool} : RowOK (χ.alloc w.heap.size fr (perK cts n)) ((χ.alloc w.heap.size fr (perK cts n)).S fr) cts (some ⟨w.heap.size, 0, none⟩) n := by
  refine ⟨rfl, ?_, fun i hi => ?_⟩
  · cases fr
    · exact .inr rfl
    · exact .inr ⟨rfl, rfl⟩
  · simp only [Chi.alloc, if_true, Nat.zero_add, perK, hi]

def ctsOf (P : Program) (e : TypeId) (sz : Nat) : Option (List CT) :=
  match ckOf P ckN e with
  | some l => bif Nat.beq l.length sz && Nat.ble 1 sz then some l else none
  | none => none

theorem ctsOf_ok {P : Program} {e : TypeId} {sz : Nat} {l : List CT} (h : ctsOf P e sz = some l) : tau P (.base e) = l ∧ l.length = sz ∧ 1 ≤ sz := by
  unfold ctsOf at h
  split at h
  · rename_i l' hl
    cases hb : (Nat.beq l'.length sz && Nat.ble 1 sz) with
    | false => simp [hb] at h
    | true =>
      simp only [hb, cond_true, Option.some.injEq] at h; subst h
      simp only [Bool.and_eq_true, Nat.ble_eq] at hb
      exact ⟨by simp [tau, hl], by simpa using hb.1, hb.2⟩
  · cases h

def absMake (P : Program) (s : AS) (t : TypeId) (l c : Operand) : Option OR :=
  match P.underlying t, s.osv l, s.osv c with
  | some (.slice e), .int _ tl, .int _ tc =>
    match P.info? e with
    | some i =>
      match i.zero, ctsOf P e i.size with
      | some z, some cts =>
        bif constFitL z.cells.toList cts && Nat.ble (max tl.top tc.top) s.nv then
          some { av := .pv (.one (.slice true (.base e) tl tc)),
                 vcs := s.need (.le (.c 0) tl) ++ (s.need (.le tl tc) ++ (s.need (.le (T.mulS (.c i.bytes) tc) (.c 281474976710656)) ++ s.need (.le tc (.c CB)))) }
        else none
      | _, _ => none
    | none => none
  | _, _, _ => none

theorem madeCells_typed {P : Program} {χ : Chi} {S : Nat → Prop} {z : Value} {cts : List CT} (hf : constFitL z.cells.toList cts = true) (h1 : 1 ≤ cts.length) (n : Nat) :
    TypedBy P χ S (madeCells z.cells (n * cts.length)) (perK cts n) := by
  have hlen := constFitL_len hf
  simp only [Array.length_toList] at hlen
  refine perK_typed (by rw [size_madeCells]) (fun i v ct hv hc => ?_)
  simp only [madeCells, Array.getElem?_map, Array.getElem?_range] at hv
  split at hv
  · simp only [Option.map_some, Option.some.injEq] at hv
    obtain ⟨u, hu, hfit⟩ := constFitL_get hf hc
    have hlt : i % z.cells.size < z.cells.size := Nat.mod_lt _ (by omega)
    rw [← hlen] at hu
    rw [getElem!_pos z.cells _ hlt] at hv
    have : z.cells.toList[i % z.cells.size]? = some z.cells[i % z.cells.size] := by simp [hlt]
    rw [this] at hu
    cases hu
    rw [← hv]
    exact constFit_ok hfit
  · cases hv

theorem absMake_ok {X : Ctx} {s : AS} {o : Oper} {t : TypeId} {l c : Operand} {r : OR} (ho : o.op = .makeSlice t l c) (h : absMake X.P s t l c = some r) : VOK X s o r := by
  intro χ a w hg hvc
  have hl := s.osv_ok hg l
  have hc := s.osv_ok hg c
  unfold absMake at h
  split at h
  rotate_left
  · cases h
  rename_i e kl tl kc tc hu el ec
  rw [el] at hl; rw [ec] at hc
  simp only [gSV] at hl hc
  split at h
  rotate_left
  · cases h
  rename_i i hi
  split at h
  rotate_left
  · cases h
  rename_i z cts hz hcts
  cases hb : (constFitL z.cells.toList cts && Nat.ble (max tl.top tc.top) s.nv) with
  | false => simp [hb] at h
  | true =>
    simp only [hb, cond_true, Option.some.injEq] at h; subst h
    simp only [Bool.and_eq_true, Nat.ble_eq] at hb
    obtain ⟨htau, hlen, h1⟩ := ctsOf_ok hcts
    have v0 := AS.need_ok hg (g := .le (.c 0) tl) fun x hx => hvc x (by simp [hx])
    have v1 := AS.need_ok hg (g := .le tl tc) fun x hx => hvc x (by simp [hx])
    have v2 := AS.need_ok hg (g := .le (T.mulS (.c i.bytes) tc) (.c 281474976710656)) fun x hx => hvc x (by simp [hx])
    have v3 := AS.need_ok hg (g := .le tc (.c CB)) fun x hx => hvc x (by simp [hx])
    simp only [Fm.holds, T.mulS_ev, T.ev] at v0 v1 v2 v3
    have hcb : (CB : Int) = 9223372036854775807 := rfl
    have hr := run_make (P := X.P) w t e i z hu hi hz kl kc (tl.ev χ.ρ) (tc.ev χ.ρ) v0 v1 v2 (by omega)
    rw [← hlen] at hr
    refine ⟨_, _, χ.alloc w.heap.size true (perK cts (tc.ev χ.ρ).toNat), by simp only [execOp, ho, hl, hc, Sem.run_bind, hr, Result.andThen_ok]; rfl, ?_⟩
    exact { ext := Ext.alloc hg.inv _ _ _, mem := MemExt.alloc .., inv := Inv.alloc hg.inv true _ _ _ _ (madeCells_typed hb.1 (by omega) _) (fun _ i hi h => by simp at h),
            val := ⟨_, _, _, rfl, by simp only [Chi.alloc]; omega, by simp only [Chi.alloc]; omega, by omega, by simp only [CB]; omega, by rw [SE.ev, htau]; exact perK_row⟩,
            fs := trivial, iv := trivial, hp := fun e he => by cases he
            dist := .nil }

def absBuildSlice (P : Program) (s : AS) (t : TypeId) (len : Nat) (parts : Array (Nat × Operand)) : Option OR :=
  match P.underlying t with
  | some (.slice e) =>
    match sizeAt P e, zeroAt P e with
    | some sz, some z =>
      bif Nat.ble (len * sz) 16777216 && Nat.ble 1 sz && Nat.beq z.cells.size sz && z.cells.toList.all (·.oneCell') then
        match absFill s (fun i => some (i * sz, sz)) parts.toList ((madeCells z.cells (len * sz)).toList.map constSV) with
        | some l => bif l.all (fun c => Nat.ble c.top' s.nv) then some { av := .pv (.one (.sslice s.nv len)), ivs := [none], hp := [⟨s.nv, e, l⟩] } else none
        | none => none
      else none
    | _, _ => none
  | _ => none

theorem absBuildSlice_ok {X : Ctx} {s : AS} {o : Oper} {t : TypeId} {len : Nat} {parts : Array (Nat × Operand)} {r : OR} (ho : o.op = .buildSlice t len parts) (h : absBuildSlice X.P s t len parts = some r) : VOK X s o r := by
  intro χ a w hg _
  unfold absBuildSlice at h
  split at h
  rotate_left
  · cases h
  rename_i e hu
  split at h
  rotate_left
  · cases h
  rename_i sz z hsz hz
  cases hb : (Nat.ble (len * sz) 16777216 && Nat.ble 1 sz && Nat.beq z.cells.size sz && z.cells.toList.all (·.oneCell')) with
  | false => rw [hb] at h; cases h
  | true =>
    simp only [hb, cond_true] at h
    simp only [Bool.and_eq_true, Nat.ble_eq] at hb
    obtain ⟨⟨⟨b1, b2⟩, b3⟩, b4⟩ := hb
    have b3 : z.cells.size = sz := by simpa using b3
    split at h
    rotate_left
    · cases h
    rename_i l hl
    cases hall : l.all (fun c => Nat.ble c.top' s.nv) with
    | false => simp [hall] at h
    | true =>
      simp only [hall, cond_true, Option.some.injEq] at h; subst h
      have hone : ∀ x ∈ (madeCells z.cells (len * sz)).toList, x.oneCell' = true := by
        intro x hx
        simp only [madeCells, Array.toList_map, List.mem_map, Array.mem_toList_iff, Array.mem_range] at hx
        obtain ⟨i, _, rfl⟩ := hx
        have hlt : i % z.cells.size < z.cells.size := Nat.mod_lt _ (by omega)
        rw [getElem!_pos z.cells _ hlt]
        exact List.all_eq_true.1 b4 _ (by simp)
      obtain ⟨cs', hf, r2, r1, rs⟩ := absFill_ok hg _ _ _ _ hl (all2_map_const X.P χ _) hone
      have hmap : (parts.map fun (p : Nat × Operand) => (p.1, a.eval p.2)).toList = parts.toList.map fun p => (p.1, a.eval p.2) := by simp
      rw [← hmap] at hf
      have hstep := absNew_step hg (E := e) (cells := l) (cs := cs') (fun c hc => by simpa using List.all_eq_true.1 hall c hc) r2 r1
      refine ⟨.slice (some ⟨w.heap.size, 0, none⟩) len len, _, _, ?_, { hstep with val := ?_ }⟩
      · have hng : ¬ len * sz > 2 ^ 24 := by omega
        have hr : (Instr.buildSlice t len (parts.map fun (p : Nat × Operand) => (p.1, a.eval p.2))).run X.P w = .ok (.slice (some ⟨w.heap.size, 0, none⟩) len len) (w.alloc (.cells cs' e)) := by
          unfold Instr.buildSlice
          rw [Sem.run_bind, run_und hu]
          simp only [Result.andThen_ok]
          rw [Sem.run_bind, run_sizeAt hsz]
          simp only [Result.andThen_ok]
          rw [if_neg hng]
          by_cases h0 : len * sz = 0
          · rw [if_pos h0]
            have hf0 : Instr.fill (fun i => some (i * sz, sz)) ((Array.range (len * sz)).map ((#[] : Array Value)[· % (#[] : Array Value).size]!)) (parts.map fun (p : Nat × Operand) => (p.1, a.eval p.2)).toList = some cs' := by
              rw [← hf]; congr 1; rw [h0]; simp [madeCells]
            simp only [Sem.run_bind, Sem.run_pure, Result.andThen_ok, hf0]
            rfl
          · rw [if_neg h0]
            have hf0 : Instr.fill (fun i => some (i * sz, sz)) ((Array.range (len * sz)).map (z.cells[· % z.cells.size]!)) (parts.map fun (p : Nat × Operand) => (p.1, a.eval p.2)).toList = some cs' := hf
            simp only [Sem.run_bind, run_zeroAt hz, Sem.run_pure, Result.andThen_ok, hf0]
            rfl
        simp only [execOp, ho, Sem.run_bind, hr, Result.andThen_ok]
        rfl
      · have hz' : rext χ.ρ s.nv [(w.heap.size : Int)] s.nv = (w.heap.size : Int) := by
          have := rext_get (ρ := χ.ρ) (n := s.nv) (zs := [(w.heap.size : Int)]) (j := 0) rfl; simpa using this
        show _ = Value.slice _ _ _
        simp only [Chi.withρ, hz', Int.toNat_natCast]

def absAllocW (P : Program) (E : TypeId) : Option OR :=
  match zeroAt P E with
  | some z =>
    match ctsOf P E z.cells.size with
    | some cts => bif constFitL z.cells.toList cts then some { av := .pv (.one (.wptr true (cts.map CT.emb))) } else none
    | none => none
  | none => none

theorem absAllocW_ok {X : Ctx} {s : AS} {o : Oper} {E : TypeId} {r : OR} (ho : o.op = .alloc E) (h : absAllocW X.P E = some r) : VOK X s o r := by
  intro χ a w hg _
  unfold absAllocW at h
  split at h
  rotate_left
  · cases h
  rename_i z hz
  split at h
  rotate_left
  · cases h
  rename_i cts hcts
  cases hb : constFitL z.cells.toList cts with
  | false => simp [hb] at h
  | true =>
    simp only [hb, cond_true, Option.some.injEq] at h
    subst h
    obtain ⟨_, hlen, h1⟩ := ctsOf_ok hcts
    have hty : ∀ χ S, TypedBy X.P χ S z.cells (perK cts 1) := fun χ S => perK_typed (by omega) fun i v ct hv hc => by
      have hi : i < z.cells.size := (Array.getElem?_eq_some_iff.1 hv).1
      rw [Nat.mod_eq_of_lt (by omega)] at hc
      obtain ⟨u, hu, hfit⟩ := constFitL_get hb hc
      have : some u = some v := by rw [← hu, ← hv]; simp
      cases this
      exact constFit_ok hfit
    refine ⟨.pointer (some ⟨w.heap.size, 0, none⟩), w.alloc (.cells z.cells E), χ.alloc w.heap.size true (perK cts 1), by simp [execOp, ho, Instr.alloc, run_zeroAt hz, newVar, newRow], ?_⟩
    refine { ext := Ext.alloc hg.inv _ _ _, mem := MemExt.alloc .., inv := Inv.alloc hg.inv true _ _ _ _ (hty _ _) (fun _ i hi h => by omega), val := ⟨_, 0, rfl, .inr ⟨rfl, rfl⟩, fun i hi => ?_⟩, fs := trivial, iv := trivial, hp := fun e he => (by cases he), dist := .nil }
    simp only [List.length_map] at hi
    simp only [Chi.alloc, if_true, Nat.zero_add, perK]
    rw [if_pos (by omega), Nat.mod_eq_of_lt hi, List.map_map]
    have : (SCT.ev χ.ρ ∘ CT.emb) = id := by funext c; simp [CT.ev_emb]
    rw [this, List.map_id]

end Go.Sx
