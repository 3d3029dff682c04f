/- Part F of a proof: helper lemmas; no conditions. -/
import Derived.Test.YtnnaehcmchndmaaGreatDoorE

set_option linter.unusedSimpArgs false
set_option linter.unusedVariables false

namespace Go.Sx
open Go

def topOR : OR := { av := .pv (.one .top) }

theorem put_nv (s : AS) (dst : Option Tmp) (r : OR) : (s.put dst r).nv = s.nv + r.ivs.length := by simp [AS.put, AS.nv]

theorem topOR_ok (n : Nat) : topOR.okb n = true := by simp [OR.okb, topOR, AV.top', PV.top', SV.top']

def T.av (lo hi : Nat) : T → Bool
  | .v n => Nat.blt n lo || Nat.ble hi n
  | .c _ => true
  | .add a b | .sub a b | .mul a b | .div a b | .mod a b => a.av lo hi && b.av lo hi
  | .wrap _ a => a.av lo hi

def Fm.av (lo hi : Nat) : Fm → Bool
  | .tt | .ff => true
  | .le a b | .lt a b | .eq a b | .ne a b => a.av lo hi && b.av lo hi
  | .and f g | .or f g => f.av lo hi && g.av lo hi

def SE.av (lo hi : Nat) : SE → Bool
  | .base _ => true
  | .rint _ a b => a.av lo hi && b.av lo hi

def SCT.av (lo hi : Nat) : SCT → Bool
  | .int _ a b => a.av lo hi && b.av lo hi
  | .slice E => E.av lo hi
  | .sliceB _ E => E.av lo hi
  | _ => true

def vav (lo hi n : Nat) : Bool := Nat.blt n lo || Nat.ble hi n

def Cap.av (lo hi : Nat) : Cap → Bool
  | .st b _ => vav lo hi b
  | .wk _ cs => cs.all fun c => c.av lo hi

def SV.av (lo hi : Nat) : SV → Bool
  | .top | .nilS | .nilP | .nilF | .glob .. => true
  | .int _ t | .str t => t.av lo hi
  | .bool f => f.av lo hi
  | .slice _ E a b => E.av lo hi && (a.av lo hi && b.av lo hi)
  | .sslice b _ | .ptr b _ => vav lo hi b
  | .wptr _ cs => cs.all fun c => c.av lo hi
  | .func _ caps => caps.all fun c => c.av lo hi

def PV.av (lo hi : Nat) : PV → Bool
  | .one s => s.av lo hi
  | .agg l => l.all fun s => s.av lo hi

def AV.av (lo hi : Nat) : AV → Bool
  | .pv p => p.av lo hi
  | .tup l => l.all fun s => s.av lo hi

def HE.av (lo hi : Nat) (e : HE) : Bool := vav lo hi e.b && e.cells.all fun s => s.av lo hi

structure Exv (lo hi : Nat) (χ χ' : Chi) : Prop where
  ρ : ∀ i, i < lo ∨ hi ≤ i → χ'.ρ i = χ.ρ i
  F : ∀ b, χ.F b → χ'.F b
  A : ∀ b, χ.A b → χ'.A b
  κ : ∀ b, χ.A b → ∀ i, χ'.κ b i = χ.κ b i

theorem Exv.ext0 {lo hi : Nat} {χ χ' : Chi} (h : Exv lo hi χ χ') : Ext 0 χ χ' := ⟨fun i hi => absurd hi (Nat.not_lt_zero i), h.F, h.A, h.κ⟩

theorem vav_ok {lo hi n : Nat} (h : vav lo hi n = true) : n < lo ∨ hi ≤ n := by
  simpa [vav, Nat.blt_eq] using h

section
variable {lo hi : Nat} {ρ ρ' : Val} (h : ∀ i, i < lo ∨ hi ≤ i → ρ' i = ρ i)
include h

theorem T.ev_av : ∀ t : T, t.av lo hi = true → t.ev ρ' = t.ev ρ := by
  intro t
  induction t with
  | v m => intro hm; exact h m (vav_ok hm)
  | c z => intro _; rfl
  | wrap k a ih => intro hm; simp only [T.ev]; rw [ih hm]
  | add a b iha ihb => intro hm; simp only [T.av, Bool.and_eq_true] at hm; simp only [T.ev]; rw [iha hm.1, ihb hm.2]
  | sub a b iha ihb => intro hm; simp only [T.av, Bool.and_eq_true] at hm; simp only [T.ev]; rw [iha hm.1, ihb hm.2]
  | mul a b iha ihb => intro hm; simp only [T.av, Bool.and_eq_true] at hm; simp only [T.ev]; rw [iha hm.1, ihb hm.2]
  | div a b iha ihb => intro hm; simp only [T.av, Bool.and_eq_true] at hm; simp only [T.ev]; rw [iha hm.1, ihb hm.2]
  | mod a b iha ihb => intro hm; simp only [T.av, Bool.and_eq_true] at hm; simp only [T.ev]; rw [iha hm.1, ihb hm.2]

theorem Fm.b_av (f : Fm) (ht : f.av lo hi = true) : f.b ρ' = f.b ρ := by
  induction f with
  | tt => rfl
  | ff => rfl
  | le a b => simp only [Fm.av, Bool.and_eq_true] at ht; simp only [Fm.b]; rw [T.ev_av h a ht.1, T.ev_av h b ht.2]
  | lt a b => simp only [Fm.av, Bool.and_eq_true] at ht; simp only [Fm.b]; rw [T.ev_av h a ht.1, T.ev_av h b ht.2]
  | eq a b => simp only [Fm.av, Bool.and_eq_true] at ht; simp only [Fm.b]; rw [T.ev_av h a ht.1, T.ev_av h b ht.2]
  | ne a b => simp only [Fm.av, Bool.and_eq_true] at ht; simp only [Fm.b]; rw [T.ev_av h a ht.1, T.ev_av h b ht.2]
  | and f g hf hg => simp only [Fm.av, Bool.and_eq_true] at ht; simp only [Fm.b]; rw [hf ht.1, hg ht.2]
  | or f g hf hg => simp only [Fm.av, Bool.and_eq_true] at ht; simp only [Fm.b]; rw [hf ht.1, hg ht.2]

theorem SE.ev_av (E : SE) (ht : E.av lo hi = true) : E.ev ρ' = E.ev ρ := by
  cases E with
  | base t => rfl
  | rint k a b => simp only [SE.av, Bool.and_eq_true] at ht; simp only [SE.ev]; rw [T.ev_av h a ht.1, T.ev_av h b ht.2]

theorem SCT.ev_av (E : SCT) (ht : E.av lo hi = true) : E.ev ρ' = E.ev ρ := by
  cases E with
  | int k a b => simp only [SCT.av, Bool.and_eq_true] at ht; simp only [SCT.ev]; rw [T.ev_av h a ht.1, T.ev_av h b ht.2]
  | slice E => simp only [SCT.ev]; rw [SE.ev_av h E ht]
  | sliceB m E => simp only [SCT.ev]; rw [SE.ev_av h E ht]
  | _ => rfl

theorem holdsAll_av : ∀ {l : List Fm}, (∀ f ∈ l, f.av lo hi = true) → holdsAll ρ l → holdsAll ρ' l := by
  intro l
  induction l with
  | nil => intro _ _; trivial
  | cons a l ih =>
    intro ht hl
    refine ⟨?_, ih (fun f hf => ht f (by simp [hf])) hl.2⟩
    rw [← Fm.b_iff, Fm.b_av h a (ht a (by simp)), Fm.b_iff]
    exact hl.1

end

theorem capOK.av {lo hi : Nat} {χ χ' : Chi} (h : Exv lo hi χ χ') (hF : ∀ b, χ.F b → χ.A b) {c : Cap} {v : Value} (ht : c.av lo hi = true) (hg : capOK χ c v) : capOK χ' c v := by
  have hS : ∀ fr b, χ.S fr b → χ.A b := by
    intro fr b hb
    cases fr
    · exact hb
    · exact hF b hb
  cases c with
  | st b off => simp only [capOK, Cap.av] at *; rw [h.ρ b (vav_ok ht)]; exact hg
  | wk fr cs =>
    obtain ⟨b, o, e, h1, h2⟩ := hg
    simp only [Cap.av, List.all_eq_true] at ht
    refine ⟨b, o, e, h.ext0.S h1, fun i hi => ?_⟩
    rw [h.κ b (hS fr b h1), show cs.map (SCT.ev χ'.ρ) = cs.map (SCT.ev χ.ρ) from List.map_congr_left fun c hc => SCT.ev_av h.ρ c (ht c hc)]
    exact h2 i hi

theorem gSV.av {P : Program} {lo hi : Nat} {χ χ' : Chi} (h : Exv lo hi χ χ') (hF : ∀ b, χ.F b → χ.A b) {s : SV} {v : Value} (ht : s.av lo hi = true) (hg : gSV P χ s v) : gSV P χ' s v := by
  have hS : ∀ fr b, χ.S fr b → χ.A b := by
    intro fr b hb
    cases fr
    · exact hb
    · exact hF b hb
  cases s with
  | top => trivial
  | int k t => simp only [gSV, SV.av] at *; rw [T.ev_av h.ρ t ht]; exact hg
  | bool f => simp only [gSV, SV.av] at *; rw [Fm.b_av h.ρ f ht]; exact hg
  | str t => simp only [gSV, SV.av] at *; rw [T.ev_av h.ρ t ht]; exact hg
  | slice fr E len cap =>
    simp only [SV.av, Bool.and_eq_true] at ht
    obtain ⟨ao, l, c, e, h1, h2, h3, h4, h5⟩ := hg
    refine ⟨ao, l, c, e, ?_, ?_, h3, h4, ?_⟩
    · rw [T.ev_av h.ρ len ht.2.1]; exact h1
    · rw [T.ev_av h.ρ cap ht.2.2]; exact h2
    · rw [SE.ev_av h.ρ E ht.1]; exact h5.ext h.ext0 (fun b hb => h.ext0.S hb) (hS fr)
  | sslice b m => simp only [gSV, SV.av] at *; rw [h.ρ b (vav_ok ht)]; exact hg
  | nilS => exact hg
  | ptr b off => simp only [gSV, SV.av] at *; rw [h.ρ b (vav_ok ht)]; exact hg
  | wptr fr cs =>
    obtain ⟨b, o, e, h1, h2⟩ := hg
    simp only [SV.av, List.all_eq_true] at ht
    refine ⟨b, o, e, h.ext0.S h1, fun i hi => ?_⟩
    rw [h.κ b (hS fr b h1), show cs.map (SCT.ev χ'.ρ) = cs.map (SCT.ev χ.ρ) from List.map_congr_left fun c hc => SCT.ev_av h.ρ c (ht c hc)]
    exact h2 i hi
  | nilP => exact hg
  | func f caps =>
    obtain ⟨vs, e, h1⟩ := hg
    simp only [SV.av, List.all_eq_true] at ht
    exact ⟨vs, e, all2_imp_mem (fun c hc v hv => capOK.av h hF (ht c hc) hv) h1⟩
  | nilF => exact hg
  | glob g off => exact hg

theorem gPV.av {P : Program} {lo hi : Nat} {χ χ' : Chi} (h : Exv lo hi χ χ') (hF : ∀ b, χ.F b → χ.A b) {s : PV} {v : Value} (ht : s.av lo hi = true) (hg : gPV P χ s v) : gPV P χ' s v := by
  cases s with
  | one s => exact gSV.av h hF ht hg
  | agg l =>
    obtain ⟨cs, e, h1, h2⟩ := hg
    simp only [PV.av, List.all_eq_true] at ht
    exact ⟨cs, e, h1.imp fun a ha b hb => gSV.av h hF (ht a ha) hb, h2⟩

theorem gAV.av {P : Program} {lo hi : Nat} {χ χ' : Chi} (h : Exv lo hi χ χ') (hF : ∀ b, χ.F b → χ.A b) {s : AV} {v : Value} (ht : s.av lo hi = true) (hg : gAV P χ s v) : gAV P χ' s v := by
  cases s with
  | pv p => exact gPV.av h hF ht hg
  | tup l =>
    obtain ⟨cs, e, h1⟩ := hg
    simp only [AV.av, List.all_eq_true] at ht
    exact ⟨cs, e, h1.imp fun a ha b hb => gPV.av h hF (ht a ha) hb⟩

theorem HEok.av {X : Ctx} {χ χ' : Chi} {w w' : World} {lo hi : Nat} (hi' : Inv X.P χ w) (hx : Exv lo hi χ χ') (hm : MemExt χ w χ' w') {e : HE} (ht : e.av lo hi = true) (h : HEok X χ w e) : HEok X χ' w' e := by
  obtain ⟨h1, h2, cs, h3, h4, h5⟩ := h
  simp only [HE.av, Bool.and_eq_true, List.all_eq_true] at ht
  have hb : χ'.ρ e.b = χ.ρ e.b := hx.ρ _ (vav_ok ht.1)
  have hlt : (χ.ρ e.b).toNat < w.heap.size := by
    rcases Nat.lt_or_ge (χ.ρ e.b).toNat w.heap.size with h | h
    · exact h
    · simp [Array.getElem?_eq_none h] at h3
  refine ⟨by rw [hb]; exact h1, ?_, cs, ?_, h4.imp fun a ha b hb => gSV.av hx hi'.sub (ht.2 a ha) hb, h5⟩
  · rw [hb]; intro hA
    rcases hm.An _ hA with h | h
    · exact h2 h
    · omega
  · rw [hb, hm.old _ hlt (fun hF => h2 (hi'.sub _ hF))]; exact h3

end Go.Sx

namespace Go.Sx
open Go

structure PI where
  i : Nat
  dst : Option Tmp
  n : Nat
  r : OR
  ps : List Nat
  deriving Inhabited

def AS.hole (s : AS) (k : Nat) : AS := { s with iv := s.iv ++ List.replicate k none }

def foldP (f : Nat → Bool) : List PI → AS → AS
  | [], s => s
  | p :: l, s => foldP f l (bif f p.i then s.put p.dst p.r else s.hole p.r.ivs.length)

structure Got (X : Ctx) (p : PI) (χ : Chi) (a : Act) (w : World) : Prop where
  val : ∀ d, p.dst = some d → gAV X.P χ p.r.av (a.tmps.getD d undef)
  fs : holdsAll χ.ρ p.r.fs
  iv : ivOK χ.ρ p.n p.r.ivs
  hp : ∀ e ∈ p.r.hp, HEok X χ w e

theorem hole_nv (s : AS) (k : Nat) : (s.hole k).nv = s.nv + k := by simp [AS.hole, AS.nv]

theorem ivOK_none (ρ : Val) : ∀ (k n : Nat), ivOK ρ n (List.replicate k none) := by
  intro k
  induction k with
  | zero => intro n; trivial
  | succ k ih => intro n; exact ih (n + 1)

theorem gS.holeS {X : Ctx} {s : AS} {χ : Chi} {a : Act} {w : World} (h : gS X s χ a w) (k : Nat) : gS X (s.hole k) χ a w where
  inv := h.inv
  mem := h.mem
  wf := ⟨fun x hx => Nat.le_trans (h.wf.tm x hx) (by rw [hole_nv]; omega), fun x hx => Nat.le_trans (h.wf.hp x hx) (by rw [hole_nv]; omega), fun x hx => Nat.le_trans (h.wf.fs x hx) (by rw [hole_nv]; omega)⟩
  defers := h.defers
  size := h.size
  tm := h.tm
  hp := h.hp
  dist := h.dist
  fs := h.fs
  iv := by simp only [AS.hole, ivOK_append]; exact ⟨h.iv, ivOK_none _ _ _⟩
  gl := h.gl

theorem gS.got {X : Ctx} {s : AS} {χ : Chi} {a : Act} {w : World} (h : gS X s χ a w) {p : PI} (hp : Got X p χ a w) (hn : p.n = s.nv) (hok : p.r.okb (s.nv + p.r.ivs.length) = true) (h1 : p.r.hp.length ≤ 1)
    (hd : ∀ e ∈ p.r.hp, ∀ e' ∈ s.hp, (χ.ρ e'.b).toNat ≠ (χ.ρ e.b).toNat) : gS X (s.put p.dst p.r) χ a w := by
  simp only [OR.okb, Bool.and_eq_true, List.all_eq_true, Nat.ble_eq] at hok
  have hnv := put_nv s p.dst p.r
  refine { inv := h.inv, mem := h.mem, wf := ⟨?_, ?_, ?_⟩, defers := h.defers, size := ?_, tm := ?_, hp := ?_, dist := ?_, fs := ?_, iv := ?_, gl := h.gl }
  · intro x hx
    rw [hnv]
    simp only [AS.put] at hx
    cases hdst : p.dst with
    | none => rw [hdst] at hx; exact Nat.le_trans (h.wf.tm x hx) (by omega)
    | some d =>
      rw [hdst] at hx
      rcases List.mem_or_eq_of_mem_set hx with h1 | h1
      · exact Nat.le_trans (h.wf.tm x h1) (by omega)
      · subst h1; exact hok.1.1
  · intro x hx
    rw [hnv]
    simp only [AS.put, List.mem_append] at hx
    rcases hx with h1 | h1
    · exact Nat.le_trans (h.wf.hp x h1) (by omega)
    · exact hok.2 x h1
  · intro x hx
    rw [hnv]
    simp only [AS.put, List.mem_append] at hx
    rcases hx with h1 | h1
    · exact Nat.le_trans (h.wf.fs x h1) (by omega)
    · exact hok.1.2 x h1
  · cases hdst : p.dst with
    | none => simp only [AS.put]; exact h.size
    | some d => simp only [AS.put, List.length_set]; exact h.size
  · intro i av hi
    cases hdst : p.dst with
    | none => rw [hdst] at hi; simp only [AS.put] at hi; exact h.tm i av hi
    | some d =>
      rw [hdst] at hi
      simp only [AS.put, List.getElem?_set] at hi
      by_cases hd : d = i
      · subst hd
        by_cases hlt : d < s.tm.length
        · simp only [hlt, ↓reduceIte, Option.some.injEq] at hi
          subst hi
          exact hp.val d hdst
        · simp [hlt] at hi
      · simp only [hd, ↓reduceIte] at hi
        exact h.tm i av hi
  · intro e he
    simp only [AS.put, List.mem_append] at he
    rcases he with h1 | h1
    · exact h.hp e h1
    · exact hp.hp e h1
  · simp only [AS.put]
    rw [List.pairwise_append]
    refine ⟨h.dist, ?_, fun e he e' he' => hd e' he' e he⟩
    generalize p.r.hp = l at h1
    match l, h1 with
    | [], _ => exact .nil
    | [a], _ => exact List.pairwise_singleton _ _
    | a :: b :: l, h1 => simp at h1
  · simp only [AS.put, holdsAll_append]; exact ⟨h.fs, hp.fs⟩
  · simp only [AS.put, ivOK_append]
    refine ⟨h.iv, ?_⟩
    have := hp.iv
    rw [hn] at this
    simpa [AS.nv] using this

def nOK : Nat → List PI → Bool
  | _, [] => true
  | n, p :: l => Nat.beq p.n n && (p.r.okb (n + p.r.ivs.length) && (Nat.ble p.r.hp.length 1 && nOK (n + p.r.ivs.length) l))

theorem foldP_ok {X : Ctx} {χ : Chi} {a : Act} {w : World} {f : Nat → Bool} : ∀ {todo : List PI} {s : AS}, gS X s χ a w → nOK s.nv todo = true → (∀ p ∈ todo, f p.i = true → Got X p χ a w ∧ ∀ e ∈ p.r.hp, ∀ e' ∈ s.hp, (χ.ρ e'.b).toNat ≠ (χ.ρ e.b).toNat) →
    todo.Pairwise (fun p q => f p.i = true → f q.i = true → ∀ e ∈ q.r.hp, ∀ e' ∈ p.r.hp, (χ.ρ e'.b).toNat ≠ (χ.ρ e.b).toNat) → gS X (foldP f todo s) χ a w := by
  intro todo
  induction todo with
  | nil => intro s h _ _ _; exact h
  | cons p l ih =>
    intro s h hn hg hd
    simp only [nOK, Bool.and_eq_true, Nat.ble_eq] at hn
    obtain ⟨n1, n2, n3, n4⟩ := hn
    have n1 : p.n = s.nv := by simpa using n1
    rw [List.pairwise_cons] at hd
    simp only [foldP]
    cases hf : f p.i with
    | false =>
      simp only [cond_false]
      exact ih (h.holeS _) (by rw [hole_nv]; exact n4) (fun q hq hfq => hg q (by simp [hq]) hfq) hd.2
    | true =>
      simp only [cond_true]
      obtain ⟨g1, g2⟩ := hg p (by simp) hf
      refine ih (h.got g1 n1 n2 n3 g2) (by rw [put_nv]; exact n4) (fun q hq hfq => ⟨(hg q (by simp [hq]) hfq).1, fun e he e' he' => ?_⟩) hd.2
      simp only [AS.put, List.mem_append] at he'
      rcases he' with he' | he'
      · exact (hg q (by simp [hq]) hfq).2 e he e' he'
      · exact hd.1 q hq hf hfq e he e' he'

theorem foldP_nv {f : Nat → Bool} : ∀ {l : List PI} {s : AS} {n : Nat}, s.nv = n → nOK n l = true → (foldP f l s).nv = n + (l.map fun p => p.r.ivs.length).sum := by
  intro l
  induction l with
  | nil => intro s n h _; simpa [foldP] using h
  | cons p l ih =>
    intro s n h hn
    simp only [nOK, Bool.and_eq_true] at hn
    simp only [foldP]
    rw [ih (n := n + p.r.ivs.length) (by cases f p.i <;> simp [put_nv, hole_nv, h]) hn.2.2.2]
    simp; omega

def dstNe : Option Tmp → Option Tmp → Bool
  | some a, some b => !(Nat.beq a b)
  | _, _ => true

def OR.avoid (r : OR) (lo hi : Nat) : Bool := r.av.av lo hi && (r.fs.all (fun f => f.av lo hi) && r.hp.all (fun e => e.av lo hi))

def PI.hi (p : PI) : Nat := p.n + p.r.ivs.length

def sepB (q p : PI) : Bool :=
  !(Nat.beq q.i p.i) && (dstNe q.dst p.dst && ((Nat.ble q.hi p.n || Nat.ble p.hi q.n) && ((nmem p.i q.ps || q.r.avoid p.n p.hi) && (nmem q.i p.ps || p.r.avoid q.n q.hi))))

def pwB : List PI → Bool
  | [] => true
  | p :: l => l.all (fun q => sepB p q) && pwB l

structure Sep (q p : PI) : Prop where
  i : q.i ≠ p.i
  dst : ∀ d e, q.dst = some d → p.dst = some e → d ≠ e
  rng : q.hi ≤ p.n ∨ p.hi ≤ q.n
  av : nmem p.i q.ps = true ∨ q.r.avoid p.n p.hi = true

theorem sep_of {q p : PI} (h : sepB q p = true) : Sep q p ∧ Sep p q := by
  simp only [sepB, Bool.and_eq_true, Bool.or_eq_true, Bool.not_eq_true', Nat.ble_eq] at h
  obtain ⟨h1, h2, h3, h4, h5⟩ := h
  have h1 : q.i ≠ p.i := fun e => by rw [e, Nat.beq_refl] at h1; cases h1
  have h2' : ∀ d e, q.dst = some d → p.dst = some e → d ≠ e := by
    intro d e hd he hde
    rw [hd, he, hde] at h2
    simp [dstNe] at h2
  exact ⟨⟨h1, h2', h3, h4⟩, ⟨h1.symm, fun d e hd he => (h2' e d he hd).symm, h3.symm, h5⟩⟩

theorem pw_mem : ∀ {l : List PI}, pwB l = true → ∀ {q p : PI}, q ∈ l → p ∈ l → q.i ≠ p.i → Sep q p := by
  intro l
  induction l with
  | nil => intro _ q p hq; cases hq
  | cons a l ih =>
    intro h q p hq hp hne
    simp only [pwB, Bool.and_eq_true, List.all_eq_true] at h
    rcases List.mem_cons.1 hq with hq | hq
    · rcases List.mem_cons.1 hp with hp | hp
      · subst hq; subst hp; exact absurd rfl hne
      · rw [hq]; exact (sep_of (h.1 p hp)).1
    · rcases List.mem_cons.1 hp with hp | hp
      · rw [hp]; exact (sep_of (h.1 q hq)).2
      · exact ih h.2 hq hp hne

theorem pw_i : ∀ {l : List PI}, pwB l = true → l.Pairwise fun p q => p.i ≠ q.i := by
  intro l
  induction l with
  | nil => intro _; exact .nil
  | cons a l ih =>
    intro h
    simp only [pwB, Bool.and_eq_true, List.all_eq_true] at h
    rw [List.pairwise_cons]
    exact ⟨fun q hq => (sep_of (h.1 q hq)).1.i, ih h.2⟩

theorem pw_inj : ∀ {l : List PI}, l.Pairwise (fun p q => p.i ≠ q.i) → ∀ {a b : PI}, a ∈ l → b ∈ l → a.i = b.i → a = b := by
  intro l
  induction l with
  | nil => intro _ a b ha; cases ha
  | cons x l ih =>
    intro hp a b ha hb hab
    rw [List.pairwise_cons] at hp
    rcases List.mem_cons.1 ha with ha | ha
    · rcases List.mem_cons.1 hb with hb | hb
      · rw [ha, hb]
      · rw [ha] at hab; exact absurd hab (hp.1 b hb)
    · rcases List.mem_cons.1 hb with hb | hb
      · rw [hb] at hab; exact absurd hab.symm (hp.1 a ha)
      · exact ih hp.2 ha hb hab

abbrev Sd := Option (Nat × HE)

structure GD (X : Ctx) (its : List PI) (s0 : AS) (sd : Sd) (D : Nat → Prop) (χ : Chi) (a : Act) (w : World) : Prop where
  base : gS X s0 χ a w
  got : ∀ p ∈ its, D p.i → Got X p χ a w
  d0 : ∀ p ∈ its, D p.i → ∀ e ∈ p.r.hp, ∀ e' ∈ s0.hp, (χ.ρ e'.b).toNat ≠ (χ.ρ e.b).toNat
  dd : ∀ p ∈ its, D p.i → ∀ q ∈ its, D q.i → p.i ≠ q.i → ∀ e ∈ p.r.hp, ∀ e' ∈ q.r.hp, (χ.ρ e'.b).toNat ≠ (χ.ρ e.b).toNat
  side : ∀ i e, sd = some (i, e) → ¬ D i → HEok X χ w e ∧ e.top' ≤ s0.nv ∧ (∀ e' ∈ s0.hp, (χ.ρ e'.b).toNat ≠ (χ.ρ e.b).toNat) ∧ ∀ q ∈ its, D q.i → ∀ e' ∈ q.r.hp, (χ.ρ e'.b).toNat ≠ (χ.ρ e.b).toNat

def topAt (s : AS) (dst : Option Tmp) : Bool :=
  match dst with
  | some d => (match s.tm[d]? with | some (.pv (.one .top)) => true | _ => false)
  | none => true

theorem put_top {s : AS} {dst : Option Tmp} (h : topAt s dst = true) : s.put dst topOR = s := by
  cases dst with
  | none => simp [AS.put, topOR]
  | some d =>
    simp only [topAt] at h
    have : s.tm.set d (.pv (.one .top)) = s.tm := by
      apply List.ext_getElem?
      intro i
      rw [List.getElem?_set]
      split
      · rename_i hd
        subst hd
        split at h
        · rename_i e
          have : d < s.tm.length := (List.getElem?_eq_some_iff.1 e).1
          rw [if_pos this, e]
        · cases h
      · rfl
    simp only [AS.put, topOR, List.append_nil]
    rw [this]

theorem GD.fold {X : Ctx} {its : List PI} {s0 : AS} {sd : Sd} {D : Nat → Prop} {χ : Chi} {a : Act} {w : World} (h : GD X its s0 sd D χ a w) (hpw : pwB its = true) {l : List PI} (hl : ∀ p ∈ l, p ∈ its) (hli : l.Pairwise fun p q => p.i ≠ q.i) (hn : nOK s0.nv l = true) {f : Nat → Bool} (hf : ∀ p ∈ l, f p.i = true → D p.i) :
    gS X (foldP f l s0) χ a w := by
  refine foldP_ok h.base hn (fun p hp hfp => ⟨h.got p (hl p hp) (hf p hp hfp), h.d0 p (hl p hp) (hf p hp hfp)⟩) ?_
  refine hli.imp_of_mem fun {p q} hp hq hne hfp hfq e he e' he' => ?_
  exact h.dd q (hl q hq) (hf q hq hfq) p (hl p hp) (hf p hp hfp) hne.symm e he e' he'

def patch (ρ ρ' : Val) (n m : Nat) : Val := fun i => if n ≤ i ∧ i < m then ρ' i else ρ i

theorem GD.step {X : Ctx} {its : List PI} {s0 m : AS} {sd : Sd} {D : Nat → Prop} {χ : Chi} {a : Act} {w : World} (h : GD X its s0 sd D χ a w) (hpw : pwB its = true) {p : PI} (hp : p ∈ its) (hD : ¬ D p.i) (hcl : ∀ q ∈ its, D q.i → nmem p.i q.ps = false)
    (htop : topAt s0 p.dst = true) (hn0 : s0.nv ≤ p.n) (hok : p.r.okb p.hi = true) (h1 : p.r.hp.length ≤ 1) (hm : m.nv = p.n) {χ' : Chi} {w' : World} {v : Value} (hs : Step X m p.r χ w χ' w' v) (hdl : ∀ d, p.dst = some d → d < a.tmps.size) :
    ∃ χ2, Ext s0.nv χ χ2 ∧ GD X its s0 sd (fun i => D i ∨ i = p.i) χ2 (a.put p.dst v) w' := by
  let χ2 : Chi := χ'.withρ (patch χ.ρ χ'.ρ p.n p.hi)
  have hx := hs.ext
  rw [hm] at hx
  have e1 : Exv p.n p.hi χ χ2 := ⟨fun i hi => by show patch χ.ρ χ'.ρ p.n p.hi i = _; unfold patch; rw [if_neg (by omega)], hx.F, hx.A, hx.κ⟩
  have e2 : Ext p.hi χ' χ2 := ⟨fun i hi => by
    show patch χ.ρ χ'.ρ p.n p.hi i = _
    unfold patch
    split
    · rfl
    · exact (hx.ρ i (by omega)).symm, fun _ h => h, fun _ h => h, fun _ _ _ => rfl⟩
  have e0 : Ext s0.nv χ χ2 := ⟨fun i hi => e1.ρ i (by omega), e1.F, e1.A, e1.κ⟩
  have hmem : MemExt χ w χ2 w' := hs.mem.withρ _
  have hinv : Inv X.P χ2 w' := hs.inv.withρ _
  simp only [OR.okb, Bool.and_eq_true, List.all_eq_true, Nat.ble_eq] at hok
  have hbase : gS X s0 χ2 (a.put p.dst v) w' := by
    have := h.base.put X (r := topOR) (χ' := χ2) (w' := w') (v := v) ⟨e0, hmem, hinv, trivial, trivial, trivial, fun e he => (nomatch he), .nil⟩ (by simpa [topOR] using topOR_ok s0.nv) p.dst
    rwa [put_top htop] at this
  have hblk : ∀ e, HEok X χ w e → (χ.ρ e.b).toNat < w.heap.size := by
    rintro e ⟨_, _, cs, h3, _⟩
    rcases Nat.lt_or_ge (χ.ρ e.b).toNat w.heap.size with h | h
    · exact h
    · simp [Array.getElem?_eq_none h] at h3
  -- what has come up before
  have old : ∀ q ∈ its, D q.i → Sep q p ∧ q.r.avoid p.n p.hi = true := by
    intro q hq hDq
    have hne : q.i ≠ p.i := fun e => hD (e ▸ hDq)
    have hs := pw_mem hpw hq hp hne
    refine ⟨hs, ?_⟩
    rcases hs.av with h | h
    · rw [hcl q hq hDq] at h; cases h
    · exact h
  have oldHp : ∀ q ∈ its, D q.i → ∀ e ∈ q.r.hp, χ2.ρ e.b = χ.ρ e.b := by
    intro q hq hDq e he
    have := (old q hq hDq).2
    simp only [OR.avoid, Bool.and_eq_true, List.all_eq_true] at this
    have h3 := this.2.2 e he
    simp only [HE.av, Bool.and_eq_true] at h3
    exact e1.ρ _ (vav_ok h3.1)
  have newHp : ∀ e ∈ p.r.hp, χ2.ρ e.b = χ'.ρ e.b := by
    intro e he
    have := hok.2 e he
    simp only [HE.top', Nat.max_le] at this
    exact e2.ρ _ (by omega)
  have newGe : ∀ e ∈ p.r.hp, w.heap.size ≤ (χ2.ρ e.b).toNat := fun e he => by rw [newHp e he]; exact (hs.hp e he).2
  have oldLt : ∀ q ∈ its, D q.i → ∀ e ∈ q.r.hp, (χ2.ρ e.b).toNat < w.heap.size := fun q hq hDq e he => by rw [oldHp q hq hDq e he]; exact hblk e ((h.got q hq hDq).hp e he)
  have baseLt : ∀ e ∈ s0.hp, (χ2.ρ e.b).toNat < w.heap.size := fun e he => by
    have := h.base.wf.hp e he
    simp only [HE.top', Nat.max_le] at this
    rw [e0.ρ _ (by omega)]; exact hblk e (h.base.hp e he)
  refine ⟨χ2, e0, hbase, ?_, ?_, ?_, ?_⟩
  · intro q hq hDq
    rcases Classical.em (q.i = p.i) with hqp | hqp
    · -- this one: by the pairs it is p itself
      have hqe : q = p := pw_inj (pw_i hpw) hq hp hqp
      subst hqe
      refine ⟨fun d hd => ?_, ?_, ?_, ?_⟩
      · rw [Act.put_tmps, hd]
        simp only [getD_set]
        rw [if_pos ⟨trivial, hdl d hd⟩]
        exact gAV.ext e2 hs.inv.sub hok.1.1 hs.val
      · exact holdsAll_congr e2.ρ _ hok.1.2 hs.fs
      · have := hs.iv
        rw [hm] at this
        exact ivOK_congr _ _ (fun i _ hi => e2.ρ i hi) this
      · intro e he
        exact (hs.hp e he).1.ext X hs.inv e2 ⟨rfl, rfl, rfl, Nat.le_refl _, fun _ _ _ => rfl, fun _ h => .inl h, fun _ h => .inl h⟩ (hok.2 e he)
    · have hDq : D q.i := hDq.resolve_right hqp
      obtain ⟨hsep, hav⟩ := old q hq hDq
      have g := h.got q hq hDq
      simp only [OR.avoid, Bool.and_eq_true, List.all_eq_true] at hav
      refine ⟨fun d hd => ?_, ?_, ?_, ?_⟩
      · rw [Act.put_tmps]
        cases hpd : p.dst with
        | none => exact gAV.av e1 h.base.inv.sub hav.1 (g.val d hd)
        | some e =>
          simp only [getD_set]
          rw [if_neg (fun hh => hsep.dst d e hd hpd hh.1.symm)]
          exact gAV.av e1 h.base.inv.sub hav.1 (g.val d hd)
      · exact holdsAll_av e1.ρ hav.2.1 g.fs
      · refine ivOK_congr _ _ (fun i hi hi2 => e1.ρ i ?_) g.iv
        have := hsep.rng
        simp only [PI.hi] at this ⊢
        omega
      · intro e he
        exact (g.hp e he).av h.base.inv e1 hmem (hav.2.2 e he)
  · intro q hq hDq e he e' he'
    by_cases hqp : q.i = p.i
    · by_cases hDq' : D q.i
      · have := oldLt q hq hDq' e he
        rw [oldHp q hq hDq' e he]
        have t := h.base.wf.hp e' he'
        simp only [HE.top', Nat.max_le] at t
        rw [e0.ρ _ (by omega)]
        exact h.d0 q hq hDq' e he e' he'
      · have hqe : q = p := pw_inj (pw_i hpw) hq hp hqp
        subst hqe
        have := newGe e he
        have := baseLt e' he'
        omega
    · have hDq : D q.i := hDq.resolve_right hqp
      rw [oldHp q hq hDq e he]
      have t := h.base.wf.hp e' he'
      simp only [HE.top', Nat.max_le] at t
      rw [e0.ρ _ (by omega)]
      exact h.d0 q hq hDq e he e' he'
  · intro q hq hDq r hr hDr hne e he e' he'
    have side : ∀ x ∈ its, (D x.i ∨ x.i = p.i) → D x.i ∨ x = p := by
      intro x hx hDx
      by_cases hD' : D x.i
      · exact .inl hD'
      · exact .inr (pw_inj (pw_i hpw) hx hp (hDx.resolve_left hD'))
    rcases side q hq hDq with hq1 | hq1 <;> rcases side r hr hDr with hr1 | hr1
    · rw [oldHp q hq hq1 e he, oldHp r hr hr1 e' he']
      exact h.dd q hq hq1 r hr hr1 hne e he e' he'
    · subst hr1
      have := newGe e' he'
      have := oldLt q hq hq1 e he
      omega
    · subst hq1
      have := newGe e he
      have := oldLt r hr hr1 e' he'
      omega
    · subst hq1; subst hr1; exact absurd rfl hne
  · intro i e hsd hDi
    obtain ⟨g1, g2, g3, g4⟩ := h.side i e hsd (fun hh => hDi (.inl hh))
    have g2' := g2
    simp only [HE.top', Nat.max_le] at g2'
    have heb : χ2.ρ e.b = χ.ρ e.b := e0.ρ _ (by omega)
    refine ⟨g1.ext X h.base.inv e0 hmem g2, g2, fun e' he' => ?_, fun q hq hDq e' he' => ?_⟩
    · have t := h.base.wf.hp e' he'
      simp only [HE.top', Nat.max_le] at t
      rw [e0.ρ _ (by omega), heb]
      exact g3 e' he'
    · by_cases hDq' : D q.i
      · rw [oldHp q hq hDq' e' he', heb]
        exact g4 q hq hDq' e' he'
      · have hqe : q = p := pw_inj (pw_i hpw) hq hp (hDq.resolve_left hDq')
        subst hqe
        have := newGe e' he'
        have := hblk e g1
        rw [heb]
        omega

theorem gS.setOut {X : Ctx} {s : AS} {χ : Chi} {a : Act} {w : World} (h : gS X s χ a w) {b : Nat} (h0 : X.w₀.heap.size ≤ b) (hb : ¬ χ.A b) (hlt : b < w.heap.size) (hne : ∀ e ∈ s.hp, (χ.ρ e.b).toNat ≠ b) (o : Obj) : gS X s χ a (setBlk w b o) := by
  refine { inv := h.inv.setOwn hb hlt _, mem := ?_, wf := h.wf, defers := h.defers, size := h.size, tm := h.tm, hp := ?_, dist := h.dist, fs := h.fs, iv := h.iv, gl := h.gl }
  · refine ⟨h.mem.os, h.mem.tape, h.mem.output, by rw [setBlk_size]; exact h.mem.size, fun i hi hF => ?_, h.mem.Fn, h.mem.An⟩
    rw [setBlk_get hlt, if_neg (by omega)]
    exact h.mem.old i hi hF
  · intro e he
    obtain ⟨p1, p2, cs, p3, p4, p5⟩ := h.hp e he
    exact ⟨p1, p2, cs, by rw [setBlk_get hlt, if_neg (hne e he)]; exact p3, p4, p5⟩

theorem HEok.setOut {X : Ctx} {χ : Chi} {w : World} {e : HE} (h : HEok X χ w e) {b : Nat} (hlt : b < w.heap.size) (hne : (χ.ρ e.b).toNat ≠ b) (o : Obj) : HEok X χ (setBlk w b o) e := by
  obtain ⟨p1, p2, cs, p3, p4, p5⟩ := h
  exact ⟨p1, p2, cs, by rw [setBlk_get hlt, if_neg hne]; exact p3, p4, p5⟩

theorem GD.stepS {X : Ctx} {its : List PI} {s0 : AS} {D : Nat → Prop} {χ : Chi} {a : Act} {w : World} {p : PI} {e e1 : HE} (h : GD X its s0 (some (p.i, e)) D χ a w) (hpw : pwB its = true) (hp : p ∈ its) (hD : ¬ D p.i)
    (hdst : p.dst = none) (hr : p.r = { av := .pv (.one .top), hp := [e1] }) (hb : e1.b = e.b) {o : Obj} (h1 : HEok X χ (setBlk w (χ.ρ e.b).toNat o) e1) :
    GD X its s0 (some (p.i, e)) (fun i => D i ∨ i = p.i) χ a (setBlk w (χ.ρ e.b).toNat o) := by
  obtain ⟨g1, g2, g3, g4⟩ := h.side _ _ rfl hD
  obtain ⟨k1, k2, cs, k3, _⟩ := g1
  have hlt : (χ.ρ e.b).toNat < w.heap.size := lt_of_blk k3
  have side : ∀ x ∈ its, (D x.i ∨ x.i = p.i) → D x.i ∨ x = p := by
    intro x hx hDx
    by_cases hD' : D x.i
    · exact .inl hD'
    · exact .inr (pw_inj (pw_i hpw) hx hp (hDx.resolve_left hD'))
  refine ⟨h.base.setOut k1 k2 hlt g3 o, ?_, ?_, ?_, ?_⟩
  · intro q hq hDq
    rcases side q hq hDq with hq1 | hq1
    · have g := h.got q hq hq1
      exact ⟨g.val, g.fs, g.iv, fun e' he' => (g.hp e' he').setOut hlt (g4 q hq hq1 e' he') o⟩
    · subst hq1
      refine ⟨fun d hd => (by rw [hdst] at hd; cases hd), by rw [hr]; trivial, by rw [hr]; trivial, fun e' he' => ?_⟩
      rw [hr] at he'
      simp only [List.mem_singleton] at he'
      subst he'; exact h1
  · intro q hq hDq e' he' e'' he''
    rcases side q hq hDq with hq1 | hq1
    · exact h.d0 q hq hq1 e' he' e'' he''
    · subst hq1
      rw [hr] at he'
      simp only [List.mem_singleton] at he'
      subst he'; rw [hb]; exact g3 e'' he''
  · intro q hq hDq r hr' hDr hne e' he' e'' he''
    rcases side q hq hDq with hq1 | hq1 <;> rcases side r hr' hDr with hr1 | hr1
    · exact h.dd q hq hq1 r hr' hr1 hne e' he' e'' he''
    · subst hr1
      rw [hr] at he''
      simp only [List.mem_singleton] at he''
      subst he''; rw [hb]; exact (g4 q hq hq1 e' he').symm
    · subst hq1
      rw [hr] at he'
      simp only [List.mem_singleton] at he'
      subst he'; rw [hb]; exact g4 r hr' hr1 e'' he''
    · subst hq1; subst hr1; exact absurd rfl hne
  · intro i e' hsd hDi
    cases hsd
    exact absurd (.inr rfl) hDi

end Go.Sx

namespace Go.Sx
open Go

inductive Ex where
  | nrm | ext (id : Nat) | ret
  deriving Inhabited

structure LoopAnn where
  ivs : List (Nat × Int × Int) := []
  facts : List Fm := []
  meas : Option T := none
  keep : List Nat := []
  peel : Nat := 0
  deriving Inhabited

structure Env where
  P : Program
  con : List (Nat × Contract) := []
  inl : List Nat := []
  ann : List (Nat × Nat × LoopAnn) := []
  wa : Bool := false

def Env.getCon (env : Env) (f : Nat) : Option Contract := go env.con
  where go : List (Nat × Contract) → Option Contract
  | [] => none
  | (g, c) :: l => bif Nat.beq g f then some c else go l

def Env.getAnn (env : Env) (f b : Nat) : LoopAnn := go env.ann
  where go : List (Nat × Nat × LoopAnn) → LoopAnn
  | [] => {}
  | (g, b', c) :: l => bif Nat.beq g f && Nat.beq b' b then c else go l

abbrev Res := Option (List (Ex × AS) × List VC)
abbrev ResS := Option (List AS × List VC)

def udR : OR := { av := .tup [] }

def absVal' (env : Env) (s : AS) (op : Op) : Option OR :=
  match op with
  | .alloc E => bif env.wa then absAllocW env.P E else absVal env.P s op
  | _ => absVal env.P s op

def valOp (env : Env) (s : AS) (o : Oper) : ResS :=
  match absVal' env s o.op with
  | some r => bif r.okb (s.nv + r.ivs.length) then some ([s.put o.dst r], r.vcs) else none
  | none => none

def absCell (P : Program) (s : AS) (a : Tmp) (t : TypeId) : Option PV :=
  match aggOf P t, sizeAt P t, s.osv (.tmp a) with
  | some agg, some sz, .ptr b off =>
    match hpFind b s.hp with
    | some e => bif Nat.ble (off + bif agg then sz else 1) e.cells.length then mkPV agg ((e.cells.drop off).take (bif agg then sz else 1)) else none
    | none => none
  | _, _, _ => none

def absRes (P : Program) (s : AS) : List ResultVar → Option (List PV)
  | [] => some []
  | .tmp t :: l =>
    match s.opd (.tmp t), absRes P s l with
    | .pv p, some r => some (p :: r)
    | _, _ => none
  | .cell a t :: l =>
    match absCell P s a t, absRes P s l with
    | some p, some r => some (p :: r)
    | _, _ => none

def resAV : List PV → AV
  | [p] => .pv p
  | l => .tup l

def retOuts (P : Program) (fn : Func) (s : AS) (dst : Option Tmp) : List (Ex × AS) → Option (List AS)
  | [] => some []
  | (e, st) :: l =>
    match e, absRes P st fn.results.toList, retOuts P fn s dst l with
    | .ext _, _, _ => none
    | _, some ps, some r =>
      let rr : OR := { av := resAV ps }
      bif rr.okb st.nv then some (({ st with tm := s.tm } : AS).put dst rr :: r) else none
    | _, _, _ => none

def callOp (env : Env) (ex : Nat → Nat → Code → AS → Res) (s : AS) (o : Oper) (f : Operand) (args : List Operand) : ResS :=
  match s.osv f with
  | .func fid caps =>
    match env.P.funcs[fid]? with
    | some fn =>
      match fn.body with
      | some body =>
        bif fn.name == "runtime.NumGoroutine" then none else
        let avs := args.map s.opd ++ caps.map fun c => AV.pv (.one c.sv)
        match env.getCon fid with
        | some con =>
          match absCon s con avs with
          | some r => bif r.okb (s.nv + r.ivs.length) then some ([s.put o.dst r], r.vcs) else none
          | none => none
        | none =>
          bif nmem fid env.inl && avs.all (fun x => Nat.ble x.top' s.nv) then
            match ex fid 0 body { s with tm := avs ++ List.replicate (fn.ntmps - avs.length) (.pv (.one .top)) } with
            | some (outs, v) =>
              match retOuts env.P fn s o.dst outs with
              | some ss => some (ss, v)
              | none => none
            | none => none
          else none
      | none => none
    | none => none
  | _ => none

def op1 (env : Env) (ex : Nat → Nat → Code → AS → Res) (s : AS) (o : Oper) : ResS :=
  match o.op with
  | .store t addr x =>
    match absStoreS env.P s t addr x with
    | some s' => some ([s'.put o.dst topOR], [])
    | none =>
      match absStoreW env.P s t addr x with
      | some r => bif r.okb (s.nv + r.ivs.length) then some ([s.put o.dst r], r.vcs) else none
      | none => none
  | .panic _ => some ([], s.need .ff)
  | .call c =>
    match c.callee with
    | .value f => callOp env ex s o f c.args.toList
    | _ => valOp env s o
  | _ => valOp env s o

def svBlocks (s : AS) : Nat → SV → List Nat
  | 0, _ => []
  | n + 1, .sslice b _ => (match hpFind b s.hp with | some e => (e.cells.map (svBlocks s n)).flatten | none => []) ++ [b]
  | n + 1, .ptr b _ => (match hpFind b s.hp with | some e => (e.cells.map (svBlocks s n)).flatten | none => []) ++ [b]
  | _, _ => []

def pvBlocks (s : AS) : PV → List Nat
  | .one x => svBlocks s 4 x
  | .agg l => (l.map (svBlocks s 4)).flatten

def avBlocks (s : AS) : AV → List Nat
  | .pv p => pvBlocks s p
  | .tup l => (l.map (pvBlocks s)).flatten

def noPtr (b : Bool) : AV → AV
  | .pv (.one (.ptr x y)) => bif b then .pv (.one (.ptr x y)) else .pv (.one .top)
  | x => x

def opBlocks (s : AS) (op : Op) : List Nat :=
  let b := match op with | .indexAddr .. | .slice .. | .call _ => true | _ => false
  (op.operands.toList.map fun x => avBlocks s (noPtr b (s.opd x))).flatten

def stepOp (env : Env) (s : AS) (o : Oper) : Option OR :=
  match o.op with
  | .store t addr x => absStoreW env.P s t addr x
  | .panic _ => none
  | .call c =>
    match c.callee with
    | .value f =>
      (match s.osv f with
       | .func fid caps =>
         (match env.P.funcs[fid]? with
          | some fn =>
            (match fn.body with
             | some _ =>
               bif fn.name == "runtime.NumGoroutine" then none else
               (match env.getCon fid with
                | some con => absCon s con (c.args.toList.map s.opd ++ caps.map fun c => AV.pv (.one c.sv))
                | none => none)
             | none => none)
          | none => none)
       | _ => none)
    | _ => absVal' env s o.op
  | _ => absVal' env s o.op

def weakenL (P : Program) : List Nat → AS → Option (AS × List VC)
  | [], s => some (s, [])
  | b :: l, s =>
    match hpFind b s.hp with
    | none => weakenL P l s
    | some _ => match weaken P s b with
      | some (s', v) => match weakenL P l s' with
        | some (s2, v2) => some (s2, v ++ v2)
        | none => none
      | none => none

def opW (env : Env) (ex : Nat → Nat → Code → AS → Res) (s : AS) (o : Oper) : ResS :=
  match op1 env ex s o with
  | some r => some r
  | none =>
    match weakenL env.P (opBlocks s o.op) s with
    | some (s', v) => match op1 env ex s' o with
      | some (ss, v2) => some (ss, v ++ v2)
      | none => none
    | none => none

def bindS (f : AS → ResS) : List AS → ResS
  | [] => some ([], [])
  | s :: l => match f s, bindS f l with
    | some (a, v), some (b, v2) => some (a ++ b, v ++ v2)
    | _, _ => none

inductive GR where
  | fail | run | skip | split (f f' : Fm)

def guardB (s : AS) (f : Fm) (want : Bool) : GR :=
  match s.dec f with
  | some b => bif b == want then .run else .skip
  | none => bif Nat.ble f.top s.nv then (bif want then .split f f.neg else .split f.neg f) else .fail

def guardRes (s : AS) (ops : Array Oper) (o : Oper) : GR :=
  match o.guard with
  | none => .run
  | some (j, want) =>
    match (ops[j]?).bind (·.dst) with
    | some d =>
      match s.tm[d]? with
      | some (.pv (.one (.bool f))) => guardB s f want
      | some (.tup []) => .skip
      | _ => .fail
    | none => .fail

def execOps (env : Env) (ex : Nat → Nat → Code → AS → Res) (ops : Array Oper) : List Nat → AS → ResS
  | [], s => some ([s], [])
  | i :: rest, s =>
    match ops[i]? with
    | none => none
    | some o =>
      match guardRes s ops o with
      | .fail => none
      | .run => match opW env ex s o with
        | some (ss, v) => match bindS (execOps env ex ops rest) ss with
          | some (r, v2) => some (r, v ++ v2)
          | none => none
        | none => none
      | .skip => execOps env ex ops rest (s.put o.dst udR)
      | .split f f' =>
        match opW env ex (s.assume f) o with
        | some (ss, v) => match bindS (execOps env ex ops rest) ss, execOps env ex ops rest ((s.assume f').put o.dst udR) with
          | some (r, v2), some (r', v3) => some (r ++ r', v ++ (v2 ++ v3))
          | _, _ => none
        | none => none

def bindsE (e : Edge) : Bool :=
  match e.ground with
  | .textOnly _ => false
  | .gcOnly _ => false
  | _ => true

def depsOf (o : Oper) : List Nat := o.after.toList.filterMap fun e => bif bindsE e then some e.on else none

def depsAt (ops : Array Oper) (i : Nat) : List Nat := match ops[i]? with | some o => depsOf o | none => []

def unionN : List Nat → List Nat → List Nat
  | [], b => b
  | x :: l, b => bif nmem x b then unionN l b else unionN l (x :: b)

def rowOf (t : List (List Nat)) : List Nat → List Nat → List Nat
  | [], acc => acc
  | d :: l, acc => rowOf t l (unionN (d :: (match t[d]? with | some r => r | none => [])) acc)

def tabOf (ops : Array Oper) : Nat → List (List Nat)
  | 0 => []
  | k + 1 => tabOf ops k ++ [rowOf (tabOf ops k) (depsAt ops k) []]

def depsLt (ops : Array Oper) : Nat → Bool
  | 0 => true
  | k + 1 => (depsAt ops k).all (fun d => Nat.blt d k) && depsLt ops k

def waitsAll (ops : Array Oper) (i : Nat) : Nat → Nat → Bool
  | 0, _ => true
  | n + 1, k => (depsAt ops k).any (fun d => Nat.ble i d) && waitsAll ops i n (k + 1)

inductive Seg where
  | one (i : Nat) | many (lo hi : Nat)
  deriving Inhabited

def rangeN (lo : Nat) : Nat → List Nat
  | 0 => []
  | k + 1 => lo :: rangeN (lo + 1) k

def isBar (ops : Array Oper) (i : Nat) : Bool := waitsAll ops i (ops.size - (i + 1)) (i + 1)

def findHi (ops : Array Oper) (tab : List (List Nat)) (lo : Nat) : Nat → Nat → Nat
  | 0, _ => ops.size
  | n + 1, hi => bif isBar ops hi && (rangeN lo (hi - lo)).all (fun j => nmem j (match tab[hi]? with | some r => r | none => [])) then hi else findHi ops tab lo n (hi + 1)

def segsOf (ops : Array Oper) (tab : List (List Nat)) : Nat → Nat → List Seg
  | 0, _ => []
  | n + 1, lo => bif Nat.ble ops.size lo then [] else bif isBar ops lo then .one lo :: segsOf ops tab n (lo + 1) else
    let hi := findHi ops tab lo (ops.size - (lo + 1)) (lo + 1)
    .many lo hi :: segsOf ops tab n hi

def segsB (ops : Array Oper) (tab : List (List Nat)) : List Seg → Nat → Bool
  | [], lo => Nat.beq lo ops.size
  | .one i :: l, lo => Nat.beq i lo && (Nat.blt i ops.size && (isBar ops i && segsB ops tab l (lo + 1)))
  | .many a hi :: l, lo => Nat.beq a lo && (Nat.ble lo hi && (Nat.ble hi ops.size && ((Nat.beq hi ops.size ||
      (isBar ops hi && (rangeN lo (hi - lo)).all (fun j => nmem j (match tab[hi]? with | some r => r | none => [])))) && segsB ops tab l hi)))

def topDst (ops : Array Oper) : List Nat → List AV → List AV
  | [], tm => tm
  | i :: l, tm => topDst ops l (match ops[i]? with | some o => (match o.dst with | some d => tm.set d (.pv (.one .top)) | none => tm) | none => tm)

def guardedBy (ops : Array Oper) (g i : Nat) : Bool := match ops[i]? with | some o => (match o.guard with | some (j, _) => Nat.beq j g | none => false) | none => false

def storeR (P : Program) (m : AS) (e : HE) (o : Oper) : Option OR :=
  match o.op, o.dst with
  | .store t addr x, none =>
    match absStoreS P { m with hp := e :: m.hp } t addr x, m.osv addr with
    | some s', .ptr b _ => bif Nat.beq b e.b then (match s'.hp with | e1 :: _ => some { av := .pv (.one .top), hp := [e1] } | [] => none) else none
    | _, _ => none
  | _, _ => none

def stepSd (env : Env) (m : AS) (sd : Sd) (i : Nat) (o : Oper) : Option OR :=
  match stepOp env m o with
  | some r => some r
  | none => match sd with
    | some (j, e) => bif Nat.beq j i then storeR env.P m e o else none
    | none => none

def runPhase (env : Env) (ops : Array Oper) (tab : List (List Nat)) (s0 : AS) (sd : Sd) : List Nat → List PI → Option (List PI)
  | [], acc => some acc
  | i :: rest, acc =>
    match ops[i]? with
    | none => none
    | some o =>
      let ps := match tab[i]? with | some r => r | none => []
      let m := foldP (fun j => nmem j ps) acc s0
      match guardRes m ops o with
      | .run =>
        match stepSd env m sd i o with
        | some r => runPhase env ops tab s0 sd rest (acc ++ [{ i := i, dst := o.dst, n := m.nv, r := r, ps := ps }])
        | none => none
      | .skip => runPhase env ops tab s0 sd rest (acc ++ [{ i := i, dst := o.dst, n := m.nv, r := udR, ps := ps }])
      | _ => none

def findSd (env : Env) (ops : Array Oper) (tab : List (List Nat)) (s0 : AS) : List Nat → List PI → Option (Nat × Nat)
  | [], _ => none
  | i :: rest, acc =>
    match ops[i]? with
    | none => none
    | some o =>
      let ps := match tab[i]? with | some r => r | none => []
      let m := foldP (fun j => nmem j ps) acc s0
      match guardRes m ops o with
      | .run =>
        match stepOp env m o with
        | some r => findSd env ops tab s0 rest (acc ++ [{ i := i, dst := o.dst, n := m.nv, r := r, ps := ps }])
        | none =>
          (match o.op with
           | .store _ addr _ => (match m.osv addr with | .ptr b _ => some (i, b) | _ => none)
           | _ => none)
      | .skip => findSd env ops tab s0 rest (acc ++ [{ i := i, dst := o.dst, n := m.nv, r := udR, ps := ps }])
      | _ => none

def hpDel (b : Nat) : List HE → List HE
  | [] => []
  | e :: l => bif Nat.beq e.b b then l else e :: hpDel b l

def vcsP : List PI → List VC
  | [] => []
  | p :: l => p.r.vcs ++ vcsP l

def phaseBlocks (ops : Array Oper) (s : AS) : List Nat → List Nat
  | [] => []
  | i :: l => (match ops[i]? with | some o => opBlocks s o.op | none => []) ++ phaseBlocks ops s l

def execPhase (env : Env) (ops : Array Oper) (tab : List (List Nat)) (s : AS) (lo hi : Nat) : Option (AS × List VC) :=
  let is := rangeN lo (hi - lo)
  let s0 : AS := { s with tm := topDst ops is s.tm }
  match runPhase env ops tab s0 none is [] with
  | some its => bif nOK s0.nv its && (pwB its && its.all (fun p => topAt s0 p.dst)) then some (foldP (fun _ => true) its s0, vcsP its) else none
  | none => match findSd env ops tab s0 is [] with
    | some (i, b) => match hpFind b s0.hp with
      | some e =>
        let s1 : AS := { s0 with hp := hpDel b s0.hp }
        match runPhase env ops tab s1 (some (i, e)) is [] with
        | some its => bif nOK s1.nv its && (pwB its && its.all (fun p => topAt s1 p.dst)) then some (foldP (fun _ => true) its s1, vcsP its) else none
        | none => none
      | none => none
    | none => none

def findSplit (env : Env) (ops : Array Oper) (tab : List (List Nat)) (s0 : AS) : List Nat → List PI → Option Fm
  | [], _ => none
  | i :: rest, acc =>
    match ops[i]? with
    | none => none
    | some o =>
      let ps := match tab[i]? with | some r => r | none => []
      let m := foldP (fun j => nmem j ps) acc s0
      match guardRes m ops o with
      | .run =>
        match stepOp env m o with
        | some r => findSplit env ops tab s0 rest (acc ++ [{ i := i, dst := o.dst, n := m.nv, r := r, ps := ps }])
        | none =>
          (match o.op with
           | .store _ _ _ => findSplit env ops tab s0 rest (acc ++ [{ i := i, dst := o.dst, n := m.nv, r := udR, ps := ps }])
           | _ => none)
      | .skip => findSplit env ops tab s0 rest (acc ++ [{ i := i, dst := o.dst, n := m.nv, r := udR, ps := ps }])
      | .split f _ => some f
      | .fail => none

def execMany (env : Env) (ops : Array Oper) (tab : List (List Nat)) (lo hi : Nat) : Nat → AS → ResS
  | 0, s => match execPhase env ops tab s lo hi with
    | some (s', v) => some ([s'], v)
    | none => none
  | n + 1, s => match execPhase env ops tab s lo hi with
    | some (s', v) => some ([s'], v)
    | none =>
      match findSplit env ops tab { s with tm := topDst ops (rangeN lo (hi - lo)) s.tm } (rangeN lo (hi - lo)) [] with
      | some f => bif Nat.ble f.top s.nv then
          (match execMany env ops tab lo hi n (s.assume f), execMany env ops tab lo hi n (s.assume f.neg) with
           | some (a, v), some (b, v2) => some (a ++ b, v ++ v2)
           | _, _ => none)
        else none
      | none => none

def splitG (ops : Array Oper) (i : Nat) (s : AS) : List AS :=
  bif (rangeN 0 ops.size).any (guardedBy ops i) then
    match (ops[i]?).bind (·.dst) with
    | some d =>
      (match s.tm[d]? with
       | some (.pv (.one (.bool f))) =>
         (match s.dec f with
          | some _ => [s]
          | none => bif Nat.ble f.top s.nv then [s.assume f, s.assume f.neg] else [s])
       | _ => [s])
    | none => [s]
  else [s]

def execSegs (env : Env) (ex : Nat → Nat → Code → AS → Res) (ops : Array Oper) (tab : List (List Nat)) : List Seg → AS → ResS
  | [], s => some ([s], [])
  | .one i :: rest, s =>
    match execOps env ex ops [i] s with
    | some (ss, v) => match bindS (execSegs env ex ops tab rest) (ss.map (splitG ops i)).flatten with
      | some (r, v2) => some (r, v ++ v2)
      | none => none
    | none => none
  | .many lo hi :: rest, s =>
    match execMany env ops tab lo hi 4 s with
    | some (ss, v) => match bindS (execSegs env ex ops tab rest) ss with
      | some (r, v2) => some (r, v ++ v2)
      | none => none
    | none => none

def phaseBlocksS (ops : Array Oper) (s : AS) : List Nat → List Nat
  | [] => []
  | i :: l => (match ops[i]? with | some o => (match o.op with | .store _ addr _ => avBlocks s (s.opd addr) | .fieldAddr _ x _ => avBlocks s (s.opd x) | _ => []) ++ opBlocks s o.op | none => []) ++ phaseBlocksS ops s l

def drawW (env : Env) (ex : Nat → Nat → Code → AS → Res) (ops : Array Oper) (tab : List (List Nat)) (segs : List Seg) (s : AS) (bs : List Nat) : ResS :=
  match weakenL env.P bs s with
  | some (s', v) => match execSegs env ex ops tab segs s' with
    | some (ss, v2) => some (ss, v ++ v2)
    | none => none
  | none => none

def execDraw (env : Env) (ex : Nat → Nat → Code → AS → Res) (ops : Array Oper) (s : AS) : ResS :=
  let tab := tabOf ops ops.size
  let segs := segsOf ops tab ops.size 0
  bif depsLt ops ops.size && segsB ops tab segs 0 then
    match execSegs env ex ops tab segs s with
    | some r => some r
    | none =>
      match drawW env ex ops tab segs s (phaseBlocks ops s (rangeN 0 ops.size)) with
      | some r => some r
      | none => drawW env ex ops tab segs s (phaseBlocksS ops s (rangeN 0 ops.size))
  else none

def bindR (f : AS → Res) : List (Ex × AS) → Res
  | [] => some ([], [])
  | (.nrm, s) :: l => match f s, bindR f l with
    | some (a, v), some (b, v2) => some (a ++ b, v ++ v2)
    | _, _ => none
  | (e, s) :: l => match bindR f l with
    | some (b, v2) => some ((e, s) :: b, v2)
    | none => none

def asgOf : Code → List (Nat × Nat)
  | .region _ ops _ => ops.toList.filterMap fun o => o.dst.map fun d => (d, o.type)
  | .seq a b => asgOf a ++ asgOf b
  | .cond _ a b => asgOf a ++ asgOf b
  | .block _ a => asgOf a
  | .loop a => asgOf a
  | .scope a => asgOf a
  | _ => []

def rdOps : List Oper → List Nat → List Nat × List Nat
  | [], a => ([], a)
  | o :: l, a =>
    let r := o.op.operands.toList.filterMap fun x => match x with | .tmp t => (bif nmem t a then none else some t) | _ => none
    let a' := match o.dst with | some d => d :: a | none => a
    let (r2, a2) := rdOps l a'
    (r ++ r2, a2)

def rbw : Code → List Nat → List Nat × List Nat
  | .region _ ops _, a => rdOps ops.toList a
  | .seq x y, a => let (r1, a1) := rbw x a; let (r2, a2) := rbw y a1; (r1 ++ r2, a2)
  | .cond c x y, a =>
    let r := match c with | .tmp t => (bif nmem t a then [] else [t]) | _ => []
    let (r1, _) := rbw x a
    let (r2, _) := rbw y a
    (r ++ (r1 ++ r2), a)
  | .block _ b, a => ((rbw b a).1, a)
  | .loop b, a => ((rbw b a).1, a)
  | .scope b, a => ((rbw b a).1, a)
  | _, a => ([], a)

def LBi : Int := 1099511627776

def genInt (iv : List IV) (wd : List Nat) (n : Nat) (k : IntKind) (t : T) (ov : Option (Int × Int)) : IV :=
  match ov with
  | some p => some p
  | none =>
    bif nmem n wd then some (k.min, k.max) else
    match t.ivl iv with
    | some (l, _) => bif ile 0 l then some (0, k.max) else some (k.min, k.max)
    | none => some (k.min, k.max)

def genSV (P : Program) (iv : List IV) (wd : List Nat) (n : Nat) (ty : Option Nat) (ov : Option (Int × Int)) : SV → SV × List IV × List Fm
  | .int k t => (.int k (.v n), [genInt iv wd n k t ov], [])
  | .bool _ => (.bool (.eq (.v n) (.c 1)), [some (0, 1)], [])
  | .str _ => (.str (.v n), [match ov with | some p => some p | none => some (0, LBi)], [])
  | .slice fr E _ _ => (.slice fr E (.v n) (.v (n + 1)), [match ov with | some p => some p | none => some (0, LBi), some (0, CB)], [.le (.v n) (.v (n + 1))])
  | .nilS =>
    (match ty with
     | some t => (match P.underlying t with
       | some (.slice e) => (.slice true (.base e) (.v n) (.v (n + 1)), [match ov with | some p => some p | none => some (0, LBi), some (0, CB)], [.le (.v n) (.v (n + 1))])
       | _ => (.top, [], []))
     | none => (.top, [], []))
  | x => (x, [], [])

def lookN {α : Type} (n : Nat) : List (Nat × α) → Option α
  | [] => none
  | (m, a) :: l => bif Nat.beq m n then some a else lookN n l

def genSlots (fn : Func) (body : Code) (keep : List Nat) (asg : List (Nat × Nat)) : List Nat :=
  let rb := (rbw body []).1
  let res := fn.results.toList.map fun r => match r with | .tmp t => t | .cell t _ => t
  (asg.map (·.1)).filter fun t => nmem t rb || nmem t res || nmem t keep || (match fn.tmpNames[t]? with | some s => !(s == "") && !(s == "_") | none => false)

def genTm (P : Program) (iv : List IV) (wd : List Nat) (asg : List (Nat × Nat)) (slots : List Nat) (ivs : List (Nat × Int × Int)) : Nat → Nat → List AV → List AV × List IV × List Fm
  | _, _, [] => ([], [], [])
  | i, n, x :: l =>
    match lookN i asg with
    | none =>
      let r := genTm P iv wd asg slots ivs (i + 1) n l
      (x :: r.1, r.2.1, r.2.2)
    | some ty =>
      bif nmem i slots then
        match x with
        | .pv (.one sv) =>
          let g := genSV P iv wd n (some ty) (lookN i ivs) sv
          let r := genTm P iv wd asg slots ivs (i + 1) (n + g.2.1.length) l
          (.pv (.one g.1) :: r.1, g.2.1 ++ r.2.1, g.2.2 ++ r.2.2)
        | _ =>
          let r := genTm P iv wd asg slots ivs (i + 1) n l
          (.pv (.one .top) :: r.1, r.2.1, r.2.2)
      else
        let r := genTm P iv wd asg slots ivs (i + 1) n l
        (.pv (.one .top) :: r.1, r.2.1, r.2.2)

abbrev HG := List (Nat × Nat × SV)

def pmem (b i : Nat) : HG → Bool
  | [] => false
  | (c, j, _) :: l => (Nat.beq b c && Nat.beq i j) || pmem b i l

def pshape (b i : Nat) (x : SV) : HG → SV
  | [] => x
  | (c, j, y) :: l => bif Nat.beq b c && Nat.beq i j then (match x, y with | .nilS, .slice fr E n c => .slice fr E n c | _, _ => pshape b i x l) else pshape b i x l

def genCells (P : Program) (iv : List IV) (wd : List Nat) (b : Nat) (hg : HG) : Nat → Nat → List SV → List SV × List IV × List Fm
  | _, _, [] => ([], [], [])
  | i, n, x :: l =>
    bif pmem b i hg then
      let g := genSV P iv wd n none none (pshape b i x hg)
      let r := genCells P iv wd b hg (i + 1) (n + g.2.1.length) l
      (g.1 :: r.1, g.2.1 ++ r.2.1, g.2.2 ++ r.2.2)
    else
      let r := genCells P iv wd b hg (i + 1) n l
      (x :: r.1, r.2.1, r.2.2)

def genHp (P : Program) (iv : List IV) (wd : List Nat) (hg : HG) : Nat → List HE → List HE × List IV × List Fm
  | _, [] => ([], [], [])
  | n, e :: l =>
    let g := genCells P iv wd e.b hg 0 n e.cells
    let r := genHp P iv wd hg (n + g.2.1.length) l
    ({ e with cells := g.1 } :: r.1, g.2.1 ++ r.2.1, g.2.2 ++ r.2.2)

def firstLen (k : Nat) : List HE → T
  | [] => .c 0
  | e :: l => match e.cells[k]? with | some (.slice _ _ n _) => n | _ => firstLen k l

def slotT (s : AS) (n : Nat) : T :=
  bif Nat.blt n 1000 then (match s.tm[n]? with | some (.pv (.one (.int _ t))) => t | some (.pv (.one (.bool (.eq (.v m) (.c 1))))) => .v m | _ => .c 0)
  else bif Nat.blt n 2000 then (match s.tm[n - 1000]? with
    | some (.pv (.one (.slice _ _ l _))) => l
    | some (.pv (.one (.str l))) => l
    | some (.pv (.one (.sslice _ m))) => .c m
    | _ => .c 0)
  else bif Nat.ble 3000 n then firstLen (n - 3000) s.hp
  else (match s.tm[n - 2000]? with | some (.pv (.one (.slice _ _ _ c))) => c | _ => .c 0)

def mkInv (P : Program) (fn : Func) (s : AS) (body : Code) (an : LoopAnn) (hg : HG) (wd : List Nat) : AS :=
  let asg := asgOf body
  let slots := genSlots fn body an.keep asg
  let g := genTm P s.iv wd asg slots an.ivs 0 s.nv s.tm
  let h := genHp P s.iv wd hg (s.nv + g.2.1.length) s.hp
  let s1 : AS := { tm := g.1, hp := h.1, fs := s.fs ++ (g.2.2 ++ h.2.2), iv := s.iv ++ (g.2.1 ++ h.2.1), gl := s.gl }
  an.facts.foldl (fun st f => st.assume (f.sub' (slotT s1))) s1

def capEq : Cap → Cap → Bool
  | .st b n, .st c m => Nat.beq b c && Nat.beq n m
  | .wk f cs, .wk g ds => (f == g) && sctEqL cs ds
  | _, _ => false

def capsEq : List Cap → List Cap → Bool
  | [], [] => true
  | a :: l, b :: m => capEq a b && capsEq l m
  | _, _ => false

def svEq : SV → SV → Bool
  | .top, .top | .nilS, .nilS | .nilP, .nilP | .nilF, .nilF => true
  | .int k a, .int l b => keq k l && a.beq b
  | .bool f, .bool g => f.beq g
  | .str a, .str b => a.beq b
  | .slice f E a b, .slice g E' c d => (f == g) && E.beq E' && a.beq c && b.beq d
  | .sslice b n, .sslice c m => Nat.beq b c && Nat.beq n m
  | .ptr b n, .ptr c m => Nat.beq b c && Nat.beq n m
  | .wptr f cs, .wptr g ds => (f == g) && sctEqL cs ds
  | .func f a, .func g b => Nat.beq f g && capsEq a b
  | .glob b n, .glob c m => Nat.beq b c && Nat.beq n m
  | _, _ => false

def diffCells (b : Nat) : Nat → List SV → List SV → HG
  | i, x :: l, y :: m => bif svEq x y then diffCells b (i + 1) l m else (b, i, y) :: diffCells b (i + 1) l m
  | _, _, _ => []

def diffHp (s : AS) : List HE → HG
  | [] => []
  | e :: l => (match hpFind e.b s.hp with | some e' => diffCells e.b 0 e.cells e'.cells | none => []) ++ diffHp s l

def diffOuts (sinv : AS) (hg : HG) : List (Ex × AS) → HG
  | [] => []
  | (.nrm, s) :: l => ((diffHp s sinv.hp).filter fun p => !(pmem p.1 p.2.1 hg)) ++ diffOuts sinv hg l
  | _ :: l => diffOuts sinv hg l

def bindHp (base k : Nat) (s : AS) : List HE → Bnd → Bnd
  | [], b => b
  | e :: l, b => bindHp base k s l (match hpFind e.b s.hp with | some e' => bindL (bindSV base k) e'.cells e.cells b | none => b)

def findθ (s sj : AS) (base : Nat) : List T :=
  let k := sj.nv - base
  bndList (bindHp base k s sj.hp (bindL (bindAV base k) s.tm sj.tm [])) base k

def badIv (s : AS) (θ : Nat → T) : Nat → List IV → List Nat
  | _, [] => []
  | n, none :: l => badIv s θ (n + 1) l
  | n, some (lo, hi) :: l => (bif (Fm.le (.c lo) (θ n)).ivT s.iv && (Fm.le (θ n) (.c hi)).ivT s.iv then [] else [n]) ++ badIv s θ (n + 1) l

def badOuts (sinv : AS) (base : Nat) : List (Ex × AS) → List Nat
  | [] => []
  | (.nrm, s) :: l => badIv s (mkθ base (findθ s sinv base)) base (sinv.iv.drop base) ++ badOuts sinv base l
  | _ :: l => badOuts sinv base l

def newIn (wd : List Nat) : List Nat → List Nat
  | [] => []
  | n :: l => bif nmem n wd then newIn wd l else n :: newIn wd l

def findInv (P : Program) (ex : AS → Res) (fn : Func) (s : AS) (body : Code) (an : LoopAnn) : Nat → HG → List Nat → Option (AS × List (Ex × AS) × List VC)
  | 0, _, _ => none
  | n + 1, hg, wd =>
    let sinv := mkInv P fn s body an hg wd
    match ex sinv with
    | some (outs, v) =>
      match diffOuts sinv hg outs with
      | [] =>
        (match newIn wd (badOuts sinv s.nv outs) with
         | [] => some (sinv, outs, v)
         | d => (match findInv P ex fn s body an n hg (d ++ wd) with
           | some r => some r
           | none => some (sinv, outs, v)))
      | d => findInv P ex fn s body an n (d ++ hg) []
    | none => none

def guessMeas (sinv sb : AS) : Option T :=
  match sb.fs.drop sinv.fs.length with
  | .lt a b :: _ => some (T.subS b a)
  | .le a b :: _ => some (T.addC (T.subS b a) 1)
  | .ne a b :: _ => some (T.subS b a)
  | _ => none

def backs (an : LoopAnn) (sinv : AS) (base : Nat) : List (Ex × AS) → Option T → Option (T × List VC)
  | [], some m => some (m, [])
  | [], none => some (.c 0, [])
  | (.nrm, sb) :: l, mo =>
    match (match mo with | some m => some m | none => (match an.meas with | some m => some (m.sub' (slotT sinv)) | none => guessMeas sinv sb)) with
    | some m =>
      let θ := mkθ base (findθ sb sinv base)
      match subsume sb sinv θ, backs an sinv base l (some m) with
      | some v1, some (m', v2) => bif m'.beq m then some (m, v1 ++ (sb.need (.le (.c 1) m) ++ (sb.need (.lt (m.sub' θ) m) ++ v2))) else none
      | _, _ => none
    | none => none
  | _ :: l, mo => backs an sinv base l mo

def notNrm : List (Ex × AS) → List (Ex × AS)
  | [] => []
  | (.nrm, _) :: l => notNrm l
  | x :: l => x :: notNrm l

def execLoop (env : Env) (ex : AS → Res) (fid bid : Nat) (body : Code) (s : AS) : Res :=
  match env.P.funcs[fid]? with
  | some fn =>
    let an := env.getAnn fid bid
    match findInv env.P ex fn s body an 8 [] [] with
    | some (sinv, outs, v) =>
      match subsume s sinv (mkθ s.nv (findθ s sinv s.nv)), backs an sinv s.nv outs none with
      | some v0, some (m, v2) => bif Nat.ble m.top sinv.nv && Nat.ble s.nv sinv.nv then some (notNrm outs, v0 ++ (v ++ v2)) else none
      | _, _ => none
    | none => none
  | none => none

def missB (sinv : AS) : List (Ex × AS) → List Nat
  | [] => []
  | (.nrm, st) :: l => (sinv.hp.filterMap fun e => match hpFind e.b st.hp with | some _ => none | none => some e.b) ++ missB sinv l
  | _ :: l => missB sinv l

def preWeak (env : Env) (ex : AS → Res) (fid bid : Nat) (body : Code) (s : AS) : List Nat :=
  match env.P.funcs[fid]? with
  | some fn =>
    match findInv env.P ex fn s body (env.getAnn fid bid) 8 [] [] with
    | some (sinv, outs, _) => missB sinv outs
    | none => []
  | none => []

def execLoopW (env : Env) (ex : AS → Res) (fid bid : Nat) (body : Code) : Nat → AS → Res
  | 0, _ => none
  | n + 1, s =>
    match preWeak env ex fid bid body s with
    | [] => execLoop env ex fid bid body s
    | bs => match weakenL env.P bs s with
      | some (s', v) => match execLoopW env ex fid bid body n s' with
        | some (o, v2) => some (o, v ++ v2)
        | none => none
      | none => none

def execLoopP (env : Env) (ex : AS → Res) (fid bid : Nat) (body : Code) : Nat → AS → Res
  | 0, s => execLoopW env ex fid bid body 4 s
  | n + 1, s =>
    match ex s with
    | some (o, v) => match bindR (execLoopP env ex fid bid body n) o with
      | some (o2, v2) => some (o2, v ++ v2)
      | none => none
    | none => none

def unBlock (id : Nat) : List (Ex × AS) → List (Ex × AS)
  | [] => []
  | (.ext i, s) :: l => (bif Nat.beq i id then (.nrm, s) else (.ext i, s)) :: unBlock id l
  | x :: l => x :: unBlock id l

def exec (env : Env) : Nat → Nat → Nat → Code → AS → Res
  | 0, _, _, _, _ => none
  | n + 1, fid, bid, c, s =>
    match c with
    | .skip => some ([(.nrm, s)], [])
    | .label _ => some ([(.nrm, s)], [])
    | .exit id => some ([(.ext id, s)], [])
    | .ret => some ([(.ret, s)], [])
    | .seq a b =>
      match exec env n fid bid a s with
      | some (o, v) => match bindR (exec env n fid bid b) o with
        | some (o2, v2) => some (o2, v ++ v2)
        | none => none
      | none => none
    | .cond x a b =>
      match s.osv x with
      | .bool f =>
        match s.dec f with
        | some true => exec env n fid bid a s
        | some false => exec env n fid bid b s
        | none =>
          bif Nat.ble f.top s.nv then
            match exec env n fid bid a (s.assume f), exec env n fid bid b (s.assume f.neg) with
            | some (o, v), some (o2, v2) => some (o ++ o2, v ++ v2)
            | _, _ => none
          else none
      | _ => none
    | .block id b =>
      match exec env n fid id b s with
      | some (o, v) => some (unBlock id o, v)
      | none => none
    | .loop b => execLoopP env (exec env n fid bid b) fid bid b (env.getAnn fid bid).peel s
    | .scope b => exec env n fid bid b s
    | .region _ ops draw =>
      match (bif draw then (bif env.P.follows .mixedOrders then execDraw env (exec env n) ops s else none) else execOps env (exec env n) ops (List.range ops.size) s) with
      | some (ss, v) => some (ss.map fun st => (.nrm, st), v)
      | none => none
    | _ => none

end Go.Sx
