/- Part HnR of a proof: helper lemmas; no conditions. -/
import Derived.Test.YtnnaehcmchndmaaGreatDoorHnD
import Derived.RangeFuncWrites
import Derived.RangeFuncLeaves
import Derived.RangeFuncBox
import Derived.RangeFuncCalls
import Derived.WalkKit
import Derived.OwnWalkIn
import Derived.TacticsInMore
import Derived.LoopNIn
import Derived.LoopIn

set_option linter.unusedSimpArgs false
set_option linter.unusedVariables false

namespace Go.Sx
open Go Go.RowKit

theorem lt_of_blk' {w : World} {k : Nat} {o : Obj} (h : w.heap[k]? = some o) : k < w.heap.size := (Array.getElem?_eq_some_iff.1 h).1

theorem MGrows.others {P : Program} {χ χ' : Chi} {w w' : World} (hi : Inv P χ w) (h : MGrows P χ w χ' w') : KeepsOthers w w' :=
  ⟨h.mem.size, fun k o hk ho => (h.mem.old k (lt_of_blk' hk) (fun hF => by
    obtain ⟨cs, E, fz, hc, _⟩ := hi.blockF k hF
    rw [hk] at hc
    cases hc
    cases ho)).trans hk⟩

def IterL {α : Type} (P : Program) (g : Nat) (lb : Array Value) (encs : α → Array Value) (OkE : α → Prop) (L N : Nat) (Ok : World → Prop) (o : Obj) : Prop :=
  ∀ (l : Nat) (J : Nat → World → Prop) (Jx : World → Prop) (W : World),
    (∀ k A, J k A → Ok A) → (∀ k A B, J k A → A.grownBy B (some L) → J k B) → (∀ A B, Jx A → A.grownBy B (some L) → Jx B) →
    (∀ k x W1, J k W1 → k < N → OkE x → YieldAt Fence.wide 10 P l (encs x) W1 fun e W' =>
      (e = .returned (.bool true) ∧ J (k + 1) W' ∧ W'.heap[L]? = W1.heap[L]?) ∨ (e = .returned (.bool false) ∧ Jx W')) →
    W.heap[L]? = some o → J 0 W →
    CallsIn Fence.wide 11 P g (#[.func (.yield l) #[] #[]] ++ lb) W fun e W' => (∃ v, e = .returned v) ∧ ((∃ k, J k W') ∨ Jx W')

def lPost (L B k : Nat) (I : Nat → World → Prop) (Ix : World → Prop) (W : World) : Exit → Act → World → Prop
  | .normal, _, W' => KeepsFrom B W W' ∧ W'.heap[L]? = W.heap[L]? ∧ I (k + 1) W'
  | .ret, _, W' => KeepsFrom B W W' ∧ Ix W'
  | .exit _, _, _ => False
  | .goto _, _, _ => False
  | .panic _, _, _ => False
  | .outgrown, _, _ => False

theorem grown_some_of_none {A B : World} (h : A.grownBy B none) (L : Nat) : A.grownBy B (some L) := ⟨h.os, h.tape, h.output, h.size, fun k hk _ => h.block k hk (by simp)⟩

variable {P : Program}

theorem wpIn_rangeFunc_L {α : Type} {g : Operand} {ps : Array Tmp} {assign body : Code} {Q : Exit → Act → World → Prop} {a : Act} {w : World}
    {gf : Nat} {lb : Array Value} (hg : a.eval g = .func (.func gf) #[] lb) (eg : ∀ args w, (callFunc gf args).run P w = .ok (.enter gf args) w)
    {encs : α → Array Value} {OkE : α → Prop} {L N : Nat} {Ok : World → Prop} {o : Obj} (hseq : IterL P gf lb encs OkE L N Ok o) (hL : w.heap[L]? = some o) (hps : ∀ x, (encs x).size = ps.size)
    (I : Nat → World → Prop) (Ix : World → Prop) (hOk : ∀ k A, I k A → Ok A)
    (hI : ∀ k A B r, I k A → A.grownBy B (some r) → (r = L ∨ w.heap.size ≤ r ∧ ∃ o : Obj, A.heap[r]? = some o ∧ o.isCells = false) → I k B)
    (hIx : ∀ A B r, Ix A → A.grownBy B (some r) → (r = L ∨ w.heap.size ≤ r ∧ ∃ o : Obj, A.heap[r]? = some o ∧ o.isCells = false) → Ix B)
    (h0 : ∀ B, w.grownBy B none → I 0 B) (a₁ : α → Act)
    (hassign : ∀ (l : Nat) (x : α) (W : World) (K : Act → World → Prop), K (a₁ x) W →
      assign.wpIn (Fence.wide.inRound l) 10 P (Exit.then K (fun _ _ _ => False)) { tmps := (ps.zip (encs x)).foldl (fun t (p, v) => t.setIfInBounds p v) a.tmps, defers := [] } W)
    (hbody : ∀ (l k : Nat) (x : α) (W : World), I k W → k < N → OkE x → body.wpIn (Fence.wide.inRound l) 10 P (lPost L w.heap.size k I Ix W) (a₁ x) W)
    (hdone : ∀ (D k : Nat) (W : World), w.heap.size ≤ D → I k W → W.heap[D]? = some (.deferred (some [])) → Q .normal { a with defers := { target := .collected D, args := #[] } :: a.defers } W)
    (hstop : ∀ (D : Nat) (W : World), w.heap.size ≤ D → Ix W → W.heap[D]? = some (.deferred (some [])) → Code.ret.wpIn Fence.wide 12 P Q { a with defers := { target := .collected D, args := #[] } :: a.defers } W) :
    (Code.rangeFunc g ps assign body).wpIn Fence.wide 12 P Q a w := by
  have hLw : L < w.heap.size := lt_of_blk' hL
  refine wpIn_rangeFunc ?_
  intro fn hfn
  obtain ⟨rec, hrec⟩ : ∃ rec : LoopState → Option Code → Loop, rec = fun st pe => { state := st, pending := pe, fn, tmps := a.tmps, params := ps, assign, body, defers := w.heap.size } := ⟨_, rfl⟩
  obtain ⟨W1, hW1⟩ : ∃ W1, (w.alloc (.deferred (some []))).alloc (.loop (rec .ready none)) = W1 := ⟨_, rfl⟩
  have hL1 : W1.heap[w.heap.size + 1]? = some (.loop (rec .ready none)) := by
    rw [← hW1]; have := World.alloc_heap_new (w.alloc (.deferred (some []))) (.loop (rec .ready none)); rwa [World.size_alloc] at this
  have hK1 : W1.heap[w.heap.size]? = some (.deferred (some [])) := by
    rw [← hW1]; exact (Below.heap_alloc _ _ _ (by simp)).trans (World.alloc_heap_new w _)
  have hg1 : w.grownBy W1 none := by
    rw [← hW1]; exact (World.grownBy_alloc w _ none).trans (World.grownBy_alloc _ _ none)
  have hLo : W1.heap[L]? = some o := (hg1.block L hLw (by simp)).trans hL
  refine ⟨w.heap.size + 1, [{ target := .collected w.heap.size, args := #[] }], W1, { target := .fn (.func gf) lb, args := #[.func (.yield (w.heap.size + 1)) #[] #[]] }, W1, gf,
    #[.func (.yield (w.heap.size + 1)) #[] #[]] ++ lb, W1, ?_, ?_, ?_, ?_, fun h => by simp [Fence.wide] at h, ?_⟩
  · rw [← hW1, hrec]; exact run_enterLoop_outer _ _ _ _ _
  · simp only [resolve, hg]
    simp [go_sem]
  · intro f' _; trivial
  · simp [invoke, go_sem, eg]
  · have keep : ∀ {A B : World} {k : Nat} {o : Obj}, A.grownBy B (some L) → A.heap[w.heap.size + k]? = some o → B.heap[w.heap.size + k]? = some o := fun {A B k o} hg h =>
      (hg.block _ (lt_of_blk' h) (by intro e; cases e; omega)).trans h
    refine (hseq (w.heap.size + 1)
      (fun k W => I k W ∧ W.heap[w.heap.size + 1]? = some (.loop (rec .ready none)) ∧ W.heap[w.heap.size + 0]? = some (.deferred (some [])))
      (fun W => Ix W ∧ W.heap[w.heap.size + 1]? = some (.loop (rec .done (some .ret))) ∧ W.heap[w.heap.size + 0]? = some (.deferred (some [])))
      W1 (fun k A h => hOk k A h.1)
      (fun k A B h hg => ⟨hI k A B L h.1 hg (.inl rfl), keep hg h.2.1, keep hg h.2.2⟩)
      (fun A B h hg => ⟨hIx A B L h.1 hg (.inl rfl), keep hg h.2.1, keep hg h.2.2⟩)
      ?_ hLo ⟨h0 _ hg1, hL1, hK1⟩).mono ?_
    · rintro k x W ⟨hi, hl, hk⟩ hlen hx
      have hlt : w.heap.size + 1 < W.heap.size := lt_of_blk' hl
      have hy := run_yield (P := P) (args := encs x) hl (by rw [hrec]; exact hps x)
      rw [hrec] at hy
      refine ⟨fn, _, assign, body, hy, roundIn_of_wpIn hfn (hassign _ x W _ ⟨_, run_beginRound hl (by rw [hrec]), ?_⟩)⟩
      have hl2 : (W.putObj (w.heap.size + 1) (.loop { rec .ready none with state := .busy })).heap[w.heap.size + 1]? = some (.loop { rec .ready none with state := .busy }) := World.putObj_heap_same hlt
      have hk2 : (W.putObj (w.heap.size + 1) (.loop { rec .ready none with state := .busy })).heap[w.heap.size]? = some (.deferred (some [])) := (World.putObj_heap_other (by omega)).trans hk
      have hLk2 : (W.putObj (w.heap.size + 1) (.loop { rec .ready none with state := .busy })).heap[L]? = W.heap[L]? := World.putObj_heap_other (by omega)
      have hi2 := hI k _ _ (w.heap.size + 1) hi (grownBy_putObj' W _ (.loop { rec .ready none with state := .busy })) (.inr ⟨by omega, _, hl, rfl⟩)
      refine wpIn_mono (hbody _ k x _ hi2 hlen hx) ?_
      have fin : ∀ (jump : Option Code) (W3 : World), KeepsFrom w.heap.size (W.putObj (w.heap.size + 1) (.loop { rec .ready none with state := .busy })) W3 →
          (Instr.endRound (w.heap.size + 1) jump).run P W3 = .ok (.bool jump.isNone) (W3.putObj (w.heap.size + 1) (.loop (rec (if jump.isNone then .ready else .done) jump))) ∧
          W3.heap[w.heap.size + 1]? = some (.loop { rec .ready none with state := .busy }) ∧
          (W3.putObj (w.heap.size + 1) (.loop (rec (if jump.isNone then .ready else .done) jump))).heap[w.heap.size + 1]? = some (.loop (rec (if jump.isNone then .ready else .done) jump)) ∧
          (W3.putObj (w.heap.size + 1) (.loop (rec (if jump.isNone then .ready else .done) jump))).heap[w.heap.size + 0]? = some (.deferred (some [])) := fun jump W3 hk3 => by
        have hl3 := hk3.same _ _ (by omega) hl2 rfl
        have := run_endRound (P := P) jump hl3
        rw [hrec] at this ⊢
        exact ⟨this, by rw [hrec] at hl3; exact hl3, World.putObj_heap_same (lt_of_blk' hl3), (World.putObj_heap_other (by omega)).trans (hk3.same _ _ (Nat.le_refl _) hk2 rfl)⟩
      rintro e a3 W3 hp
      cases e with
      | normal =>
        obtain ⟨hk3, hLk3, hi3⟩ := hp
        obtain ⟨hr, hl3, hl4, hk4⟩ := fin none W3 hk3
        exact ⟨_, _, hr, .inl ⟨rfl, ⟨hI _ _ _ (w.heap.size + 1) hi3 (grownBy_putObj' W3 _ _) (.inr ⟨by omega, _, hl3, rfl⟩), hl4, hk4⟩, (World.putObj_heap_other (by omega)).trans (hLk3.trans hLk2)⟩⟩
      | ret =>
        obtain ⟨hk3, hi3⟩ := hp
        obtain ⟨hr, hl3, hl4, hk4⟩ := fin (some .ret) W3 hk3
        exact ⟨_, _, hr, .inr ⟨rfl, hIx _ _ (w.heap.size + 1) hi3 (grownBy_putObj' W3 _ _) (.inr ⟨by omega, _, hl3, rfl⟩), hl4, hk4⟩⟩
      | exit id => exact hp.elim
      | goto t => exact hp.elim
      | panic ch => exact hp.elim
      | outgrown => exact hp.elim
    · rintro e W2 ⟨⟨v, rfl⟩, (⟨k, hi, hl, hk⟩ | ⟨hi, hl, hk⟩)⟩
      · exact ⟨none, _, by have := run_endLoop (P := P) hl (by rw [hrec]; simp); rw [hrec] at this; exact this,
          hdone _ k _ (Nat.le_refl _) (hI _ _ _ (w.heap.size + 1) hi (grownBy_putObj' W2 _ _) (.inr ⟨by omega, _, hl, rfl⟩)) ((World.putObj_heap_other (by omega)).trans hk)⟩
      · exact ⟨some .ret, _, by have := run_endLoop (P := P) hl (by rw [hrec]; simp); rw [hrec] at this; exact this,
          hstop _ _ (Nat.le_refl _) (hIx _ _ (w.heap.size + 1) hi (grownBy_putObj' W2 _ _) (.inr ⟨by omega, _, hl, rfl⟩)) ((World.putObj_heap_other (by omega)).trans hk)⟩

theorem wpListIn_run_append {F : Fence} {m : Nat} {ops : Array Oper} {rest : List Oper} {o : Oper} {a : Act} {w : World} {Q : Exit → Act → World → Prop} (hgd : o.guard = none) (s x : Operand) (t t2 : TypeId)
    (hop : o.op = .call { callee := .builtin .append, args := #[s, x], argTypes := #[t, t2] }) {vs vx v : Value} {w' : World} (hs : a.eval s = vs) (hx : a.eval x = vx)
    (hrun : (Builtin.append_ #[t, t2] o.type #[vs, vx]).run P w = .ok v w') (h : wpListIn F m P ops Q rest (a.put o.dst v) w') : wpListIn F m P ops Q (o :: rest) a w := by
  refine wpListIn_plain hgd fun K hK' => ?_
  unfold Oper.wpIn
  refine ⟨?_, ?_⟩
  · simp [Oper.about, hop, resolve, Target.leads, Sem.run_pure]
  · rw [Oper.semAt_plain F _ _ (by rw [hop]; intro c hc'; cases hc')]
    simp [execOp, hop, resolve, invoke, builtin, hs, hx, hrun, Result.andThen]
    exact hK' _ _ h

theorem wpListIn_append_el {F : Fence} {m : Nat} {T E : TypeId} {cts : List CT} {z : Value} {bytes : Nat} (hel : ElemOK P T E cts z bytes) (hby : bytes ≤ 1000) {ops : Array Oper} {rest : List Oper} {o : Oper} {a : Act} {w : World} {Q : Exit → Act → World → Prop} (hgd : o.guard = none) (s x : Operand)
    (hop : o.op = .call { callee := .builtin .append, args := #[s, x], argTypes := #[T, T] }) {χ : Chi} (hi : Inv P χ w) {ao : Option Addr} {l c : Nat} {vs : Array Value} (hs : a.eval s = .slice ao l c) (hx : a.eval x = .slice (some ⟨w.heap.size, 0, none⟩) 1 1)
    (hlc : l ≤ c) (hcc : c ≤ CB) (hrow : RowOK χ χ.F cts ao c) (hl : l ≤ 100000000) (hsz : vs.size = cts.length) (hper : PerOK P χ χ.F cts vs)
    (h : ∀ ao' c' χ' w', MGrows P χ w χ' w' → l + 1 ≤ c' → c' ≤ CB → RowOK χ' χ'.F cts ao' c' → wpListIn F m P ops Q rest (a.put o.dst (.slice ao' (l + 1) c')) w') :
    wpListIn F m P ops Q (o :: rest) a (w.alloc (.cells vs E)) := by
  have hg := grown_alloc w (.cells vs E)
  have G := MGrows.plain hi hg
  obtain ⟨ao', c', χ', w', hrun, G2, h4, h5, h6⟩ := append_el hel G.inv hlc hcc hrow (B := w.heap.size) (vs := vs) (by rw [alloc_get, if_pos rfl]) hsz hper hl hby o.type
  exact wpListIn_run_append hgd s x T T hop hs hx hrun (h ao' c' χ' w' (G.trans G2) h4 h5 h6)

end Go.Sx
