/- Part J of a proof: helper lemmas; no conditions. -/
import Derived.Test.YtnnaehcmchndmaaGreatDoorI
import Derived.Test.YtnnaehcmchndmaaGreatDoorG
import Derived.StillTail

set_option linter.unusedSimpArgs false
set_option linter.unusedVariables false

namespace Go.Sx
open Go

def CT.bd (m : Nat) : CT → CT
  | .slice E => .sliceB m E
  | .str => .strB m
  | c => c

theorem CellOK.of_bd {P : Program} {χ : Chi} {S : Nat → Prop} {m : Nat} (hm : m ≤ LB) {ct : CT} {v : Value} (h : CellOK P χ S (ct.bd m) v) : CellOK P χ S ct v := by
  cases ct with
  | slice E => obtain ⟨ao, l, c, e, h1, h2, h3⟩ := h; exact ⟨ao, l, c, e, h1, Nat.le_trans h2 hm, h3⟩
  | str => obtain ⟨s, e, h1⟩ := h; exact ⟨s, e, Nat.le_trans h1 hm⟩
  | _ => exact h

def kkOf (cts : List CT) : Nat → Option CT := fun i => cts[i]?

theorem CellOK.mono {P : Program} {χ : Chi} {S S' : Nat → Prop} (hS : ∀ b, S b → S' b) {ct : CT} {v : Value} (h : CellOK P χ S ct v) : CellOK P χ S' ct v := by
  have hr : ∀ {cts ao c}, RowOK χ S cts ao c → RowOK χ S' cts ao c := by
    intro cts ao c hr
    cases ao with
    | none => exact hr
    | some ad => exact ⟨hr.1, hS _ hr.2.1, hr.2.2⟩
  cases ct with
  | slice E => obtain ⟨ao, l, c, e, h1, h2, h3, h4⟩ := h; exact ⟨ao, l, c, e, h1, h2, h3, hr h4⟩
  | sliceB m E => obtain ⟨ao, l, c, e, h1, h2, h3, h4⟩ := h; exact ⟨ao, l, c, e, h1, h2, h3, hr h4⟩
  | _ => exact h

theorem TypedBy.mono {P : Program} {χ : Chi} {S S' : Nat → Prop} (hS : ∀ b, S b → S' b) {cs : Array Value} {kk : Nat → Option CT} (h : TypedBy P χ S cs kk) : TypedBy P χ S' cs kk := by
  intro i
  have := h i
  split at this
  · exact CellOK.mono hS this
  · trivial
  · exact this.elim

theorem TypedBy.of_bd {P : Program} {χ : Chi} {S : Nat → Prop} {m : Nat} (hm : m ≤ LB) {cs : Array Value} {cts : List CT} (h : TypedBy P χ S cs (kkOf (cts.map (CT.bd m)))) : TypedBy P χ S cs (kkOf cts) := by
  intro i
  have := h i
  simp only [kkOf, List.getElem?_map] at this ⊢
  cases h1 : cs[i]? with
  | none => rw [h1] at this; cases h2 : cts[i]? with
    | none => trivial
    | some ct => rw [h2] at this; exact this
  | some v => rw [h1] at this; cases h2 : cts[i]? with
    | none => rw [h2] at this; exact this
    | some ct => rw [h2] at this; exact CellOK.of_bd hm this

def Chi.shut (χ : Chi) : Chi := { χ with F := fun _ => False }
def Chi.only (χ : Chi) : Chi := { χ with A := χ.F }

theorem Inv.shut {P : Program} {χ : Chi} {w : World} (h : Inv P χ w) : Inv P χ.shut w :=
  ⟨fun _ hb => hb.elim, h.blockA, fun _ hb => hb.elim, fun _ hb => hb.elim⟩

theorem Inv.only {P : Program} {χ : Chi} {w : World} (h : Inv P χ w) : InvF P χ.only w :=
  ⟨⟨fun _ hb => hb, h.blockF, h.blockF, h.unfr⟩, fun _ hb => hb⟩

def Chi.none : Chi := { ρ := fun _ => 0, F := fun _ => False, A := fun _ => False, κ := fun _ _ => Option.none }

theorem InvF.none (P : Program) (w : World) : InvF P Chi.none w := ⟨⟨fun _ h => h, fun _ h => h.elim, fun _ h => h.elim, fun _ h => h.elim⟩, fun _ h => h⟩

def Chi.at0 (χ : Chi) : Nat → Chi
  | 0 => χ
  | _ + 1 => Chi.none

theorem Chi.at0_sep (χ : Chi) : ∀ i j, i ≠ j → ∀ b, (χ.at0 i).A b → ¬ (χ.at0 j).A b := by
  intro i j h b hi hj
  cases i with
  | zero => cases j with
    | zero => exact h rfl
    | succ j => exact hj
  | succ i => exact hi

structure ClosS (P : Program) (T3 T9 : Nat) (c : Clos) : Prop where
  see : SeeOK P T3 T9 c.f c.d
  mark : MarkOK P T3 T9 c.f c.d
  ok : c.d.ok P
  room : Room c.d [] []
  call : callable P c.f = true

def CallPost (P : Program) (T3 T9 : Nat) (w : World) (e : Ending) (w' : World) : Prop :=
  ∃ v cl, ∃ X : Nat → Chi, e = .returned v ∧ w.grownBy w' none ∧ ClosRow w' v cl ∧ cl.length ≤ 2 ∧ (∀ i : Nat, InvF P (X i) w') ∧ (∀ i b, (X i).A b → w.heap.size ≤ b) ∧ (∀ i c, cl[i]? = some c → At (X i) c.d c.b c.o ∧ ClosS P T3 T9 c) ∧ (∀ i j, i ≠ j → ∀ b, (X i).A b → ¬ (X j).A b) ∧
    ∀ lb l c, v = .slice (some ⟨lb, 0, none⟩) l c → w.heap.size ≤ lb ∧ ∀ i, ¬ (X i).A lb

def GlobW (P : Program) (w : World) (gl : List (Nat × List CT)) : Prop := ∀ p ∈ gl, ∃ cs E fz, w.heap[p.1]? = some (.cells cs E fz) ∧ (∀ (χ : Chi) (S : Nat → Prop), TypedBy P χ S cs (kkOf p.2)) ∧ (p.2 = [.any] → ∃ t v, cs = #[.iface t v])

theorem GlobW.nil (P : Program) (w : World) : GlobW P w [] := fun _ h => nomatch h

theorem GlobW.lt {P : Program} {w : World} {gl : List (Nat × List CT)} (h : GlobW P w gl) : ∀ p ∈ gl, p.1 < w.heap.size := fun p hp => by
  obtain ⟨cs, E, fz, h1, _, _⟩ := h p hp
  exact lt_of_blk h1

theorem GlobW.grown {P : Program} {w w' : World} {gl : List (Nat × List CT)} (h : GlobW P w gl) (hg : w.grownBy w' none) : GlobW P w' gl := fun p hp => by
  obtain ⟨cs, E, fz, h1, h2, h3⟩ := h p hp
  exact ⟨cs, E, fz, (hg.block p.1 (lt_of_blk h1) (by simp)).trans h1, h2, h3⟩

def CallOK (P : Program) (T3 T9 m f : Nat) (d : D) (gl : List (Nat × List CT)) : Prop :=
  ∀ (w : World) (χ : Chi) (b : Nat) (cs : Array Value) (E : TypeId), InvF P χ w → ¬ χ.A b → w.heap[b]? = some (.cells cs E (0, 0)) → TypedBy P χ χ.A cs (kkOf (d.cts.map (CT.bd m))) → GlobW P w gl → (∀ p ∈ gl, ¬ χ.A p.1 ∧ p.1 ≠ b) → SmV m w d (fun i => cs[i]?) 0 →
    Calls P f #[.pointer (some ⟨b, 0, none⟩)] w (CallPost P T3 T9 w)

def sctsB : List SCT → List SCT → Bool
  | [], [] => true
  | a :: l, b :: m => a.beq b && sctsB l m
  | _, _ => false

theorem sctsB_eq : ∀ {l m : List SCT}, sctsB l m = true → l = m := by
  intro l
  induction l with
  | nil => intro m h; cases m with
    | nil => rfl
    | cons b m => cases h
  | cons a l ih => intro m h; cases m with
    | nil => cases h
    | cons b m => simp only [sctsB, Bool.and_eq_true] at h; rw [SCT.beq_eq h.1, ih h.2]

def bindP (f : AS → Res) : List (Ex × AS) → Res
  | [] => some ([], [])
  | (.nrm, s) :: l => match f s, bindP f l with
    | some (a, v), some (b, v2) => some (a ++ b, v ++ v2)
    | _, _ => none
  | _ => none

def exec2 (env : Env) (fuel f : Nat) (c1 c2 : Code) (s : AS) : Res :=
  match exec env fuel f 0 c1 s with
  | some (outs, v) => match bindP (exec env fuel f 0 c2) outs with
    | some (r, v2) => some (r, v ++ v2)
    | none => none
  | none => none

theorem bindP_mem {f : AS → Res} : ∀ {l : List (Ex × AS)} {r : List (Ex × AS)} {v : List VC}, bindP f l = some (r, v) → ∀ o ∈ l, o.1 = .nrm ∧ ∃ r' v', f o.2 = some (r', v') ∧ (∀ x ∈ r', x ∈ r) ∧ ∀ y ∈ v', y ∈ v := by
  intro l
  induction l with
  | nil => intro r v _ o ho; cases ho
  | cons a l ih =>
    intro r v h o ho
    obtain ⟨e, s⟩ := a
    cases e with
    | nrm =>
      simp only [bindP] at h
      split at h
      · rename_i r1 v1 r2 v2 h1 h2
        cases h
        rcases List.mem_cons.1 ho with rfl | ho
        · exact ⟨rfl, r1, v1, h1, fun x hx => by simp [hx], fun y hy => by simp [hy]⟩
        · obtain ⟨k0, r', v', k1, k2, k3⟩ := ih h2 o ho
          exact ⟨k0, r', v', k1, fun x hx => by simp [k2 x hx], fun y hy => by simp [k3 y hy]⟩
      · cases h
    | ext i => simp [bindP] at h
    | ret => simp [bindP] at h

theorem exec2_ok {env : Env} (hcon : ConOK env) {fuel f : Nat} {c1 c2 c3 : Code} {s : AS} {outs : List (Ex × AS)} {vcs : List VC} (h : exec2 env fuel f c1 c2 s = some (outs, vcs)) {X : Ctx} (hX : X.P = env.P) (hv : ∀ y ∈ vcs, y.valid)
    {χ : Chi} {a : Act} {w : World} (hg : gS X s χ a w) {Q : Exit → Act → World → Prop} (hQ : ∀ a' w' s', (.nrm, s') ∈ outs → (∃ χ', gS X s' χ' a' w') → c3.wp X.P Q a' w') (hn : ∀ o ∈ outs, o.1 = .nrm) : (Code.seq c1 (.seq c2 c3)).wp X.P Q a w := by
  unfold exec2 at h
  split at h
  rotate_left
  · cases h
  rename_i outs1 v1 h1
  split at h
  rotate_left
  · cases h
  rename_i r v2 h2
  cases h
  refine wp_seq (wp_mono (exec_ok hcon _ _ _ _ _ _ _ h1 X hX (fun y hy => hv y (by simp [hy])) χ a w hg) ?_)
  rintro e a1 w1 ⟨o, ho, he, _, χ1, _, hg1⟩
  obtain ⟨ho1, r', v', k1, k2, k3⟩ := bindP_mem h2 o ho
  rw [ho1] at he
  cases e with
  | normal =>
    refine wp_seq (wp_mono (exec_ok hcon _ _ _ _ _ _ _ k1 X hX (fun y hy => hv y (by simp [k3 y hy])) χ1 a1 w1 hg1) ?_)
    rintro e a2 w2 ⟨o2, ho2, he2, _, χ2, _, hg2⟩
    have hn2 := hn o2 (k2 o2 ho2)
    rw [hn2] at he2
    cases e with
    | normal =>
      refine hQ a2 w2 o2.2 ?_ ⟨χ2, hg2⟩
      have := k2 o2 ho2
      rw [← hn2]; exact this
    | _ => exact he2.elim
  | _ => exact he.elim

def startS (n : Nat) (cts : List CT) (gl : List (Nat × List CT)) : AS := { tm := AV.pv (.one (.wptr false (cts.map CT.emb))) :: List.replicate (n - 1) (.pv (.one .top)), hp := [], fs := [], iv := [], gl := gl }

theorem start_ok {P : Program} {χ : Chi} {w : World} {b n : Nat} {cts : List CT} {gl : List (Nat × List CT)} (hgl : GlOK χ gl) (hinv : Inv P χ w) (hn : 1 ≤ n) (hb : χ.A b) (hκ : ∀ i, i < cts.length → χ.κ b (0 + i) = cts[i]?) :
    gS ⟨P, χ.shut, w⟩ (startS n cts gl) χ.shut { tmps := #[.pointer (some ⟨b, 0, none⟩)] ++ Array.replicate (n - 1) undef, defers := [] } w := by
  have hav : gAV P χ.shut (AV.pv (.one (.wptr false (cts.map CT.emb)))) (.pointer (some ⟨b, 0, none⟩)) := by
    refine ⟨b, 0, rfl, hb, fun i hi => ?_⟩
    simp only [List.length_map] at hi
    show χ.κ b (0 + i) = _
    rw [hκ i hi, List.map_map]
    have : (SCT.ev χ.shut.ρ ∘ CT.emb) = id := by funext c; simp [CT.ev_emb]
    rw [this, List.map_id]
  have hg0 : gS ⟨P, χ.shut, w⟩ { tm := [], hp := [], fs := [], iv := [], gl := gl } χ.shut { tmps := #[], defers := [] } w :=
    { inv := hinv.shut, mem := MemExt.refl _ _, wf := ⟨fun x hx => (nomatch hx), fun x hx => (nomatch hx), fun x hx => (nomatch hx)⟩, defers := rfl, size := rfl, tm := fun i av hi => by simp at hi, hp := fun e he => (nomatch he), dist := .nil, fs := trivial, iv := trivial, gl := fun p hp => hgl p hp }
  have := gS.enter hg0 (avs := [AV.pv (.one (.wptr false (cts.map CT.emb)))]) (vs := #[.pointer (some ⟨b, 0, none⟩)]) ⟨hav, trivial⟩ (by
    intro x hx
    simp only [List.mem_singleton] at hx
    subst hx
    simp only [AV.top', PV.top', SV.top', AS.nv, List.length_nil, foldr_max_le]
    intro c hc
    obtain ⟨ct, _, rfl⟩ := List.mem_map.1 hc
    cases ct with
    | slice E => cases E <;> simp [CT.emb, SCT.top, ET.emb, SE.top, T.top]
    | sliceB m E => cases E <;> simp [CT.emb, SCT.top, ET.emb, SE.top, T.top]
    | _ => simp [CT.emb, SCT.top, T.top]) n
  exact this

end Go.Sx

namespace Go.Sx
open Go

theorem wpOps1 {P : Program} {Q : Exit → Act → World → Prop} {o0 : Oper} {a : Act} {w : World} (h0 : o0.guard = none) (h : o0.wp P a w (Q .normal) Q) : wpOps P #[o0] Q (List.range (#[o0] : Array Oper).size) a w := by
  have e : List.range (#[o0] : Array Oper).size = [0] := rfl
  rw [e]
  simp only [wpOps, List.getElem?_toArray, List.getElem?_cons_zero, Region.wanted, h0, if_true]
  exact .inl h

theorem wpOps3 {P : Program} {Q : Exit → Act → World → Prop} {o0 o1 o2 : Oper} {a : Act} {w : World} (h0 : o0.guard = none) (h1 : o1.guard = none) (h2 : o2.guard = none)
    (h : o0.wp P a w (fun a w => o1.wp P a w (fun a w => o2.wp P a w (Q .normal) Q) Q) Q) : wpOps P #[o0, o1, o2] Q (List.range (#[o0, o1, o2] : Array Oper).size) a w := by
  have e : List.range (#[o0, o1, o2] : Array Oper).size = [0, 1, 2] := rfl
  rw [e]
  simp only [wpOps, List.getElem?_toArray, List.getElem?_cons_zero, List.getElem?_cons_succ, Region.wanted, h0, h1, h2, if_true]
  refine .inl (Oper.wp_mono (fun a w k => ?_) h)
  refine .inl (Oper.wp_mono (fun a w k => ?_) k)
  exact .inl k

theorem wp_assign {P : Program} {o : Oper} {x : Operand} {a : Act} {w : World} {K : Act → World → Prop} {Q : Exit → Act → World → Prop} (ho : o.op = .assign x) (h : K (a.put o.dst (a.eval x)) w) : o.wp P a w K Q :=
  Oper.wp_val (v := a.eval x) (by simp [execOp, ho]) h

theorem wp_makeFunc {P : Program} {o : Oper} {g : Nat} {t : Tmp} {a : Act} {w : World} {K : Act → World → Prop} {Q : Exit → Act → World → Prop} (ho : o.op = .makeFunc (.func g) #[] #[.tmp t]) (h : K (a.put o.dst (.func (.func g) #[] #[a.eval (.tmp t)])) w) : o.wp P a w K Q :=
  Oper.wp_val (v := .func (.func g) #[] #[a.eval (.tmp t)]) (by simp [execOp, ho, Instr.makeFunc]) h

theorem wp_build1 {P : Program} {o : Oper} {T e : Nat} {x : Operand} {a : Act} {w : World} {K : Act → World → Prop} {Q : Exit → Act → World → Prop} (ho : o.op = .buildSlice T 1 #[(0, x)]) (hu : P.underlying T = some (.slice e)) (hsz : sizeAt P e = some 1) {z : Value} (hz : zeroAt P e = some z) (hz1 : z.cells.size = 1)
    {v : Value} (hx : a.eval x = v) (hv : v.cells = #[v]) (h : K (a.put o.dst (.slice (some ⟨w.heap.size, 0, none⟩) 1 1)) (w.alloc (.cells #[v] e))) : o.wp P a w K Q := by
  refine Oper.wp_val (v := .slice (some ⟨w.heap.size, 0, none⟩) 1 1) (w' := w.alloc (.cells #[v] e)) ?_ h
  have hr : (Instr.buildSlice T 1 #[(0, v)]).run P w = .ok (.slice (some ⟨w.heap.size, 0, none⟩) 1 1) (w.alloc (.cells #[v] e)) := by
    unfold Instr.buildSlice
    rw [Sem.run_bind, run_und hu]
    simp only [Result.andThen_ok]
    rw [Sem.run_bind, run_sizeAt hsz]
    simp only [Result.andThen_ok]
    rw [if_neg (by omega), if_neg (by omega)]
    have hf0 : Instr.fill (fun i => some (i * 1, 1)) ((Array.range (1 * 1)).map (z.cells[· % z.cells.size]!)) (#[(0, v)] : Array (Nat × Value)).toList = some #[v] := by
      simp [Instr.fill, hv, hz1]
      rw [show Array.range 1 = #[0] from rfl]
      simp
    simp only [Sem.run_bind, run_zeroAt hz, Sem.run_pure, Result.andThen_ok, hf0]
    rfl
  simp only [execOp, ho, List.map_toArray, List.map_cons, List.map_nil, hx, Sem.run_bind, hr, Result.andThen_ok]
  rfl

theorem gS.grown {P : Program} {χ0 : Chi} {w : World} {s : AS} {χ : Chi} {a : Act} {w' : World} (h : gS ⟨P, χ0.shut, w⟩ s χ a w') : w.grownBy w' none :=
  ⟨h.mem.os, h.mem.tape, h.mem.output, h.mem.size, fun k hk _ => h.mem.old k hk id⟩

theorem gS.fresh {P : Program} {χ0 : Chi} {w : World} {s : AS} {χ : Chi} {a : Act} {w' : World} (h : gS ⟨P, χ0.shut, w⟩ s χ a w') : ∀ b, χ.F b → w.heap.size ≤ b := fun b hb => by
  rcases h.mem.Fn b hb with h | h
  · exact h.elim
  · exact h

theorem addF_only {P : Program} {χ : Chi} {w : World} (h : InvF P χ w) {b : Nat} {cs : Array Value} {E : TypeId} (hb : ¬ χ.A b) (hc : w.heap[b]? = some (.cells cs E (0, 0))) {cts : List CT} (ht : TypedBy P χ χ.A cs (kkOf cts)) : InvF P (χ.addF b (kkOf cts)) w := by
  refine ⟨h.1.addF hb hc (ht.mono h.2), fun i hi => ?_⟩
  rcases hi with hi | hi
  · exact .inl (h.2 i hi)
  · exact .inr hi

theorem addF_at {χ : Chi} {b : Nat} {cts : List CT} : ∀ i, i < cts.length → (χ.addF b (kkOf cts)).κ b (0 + i) = cts[i]? := fun i _ => by
  simp [Chi.addF, kkOf]

def allNrm : List (Ex × AS) → Bool
  | [] => true
  | (.nrm, _) :: l => allNrm l
  | _ => false

theorem allNrm_ok : ∀ {l : List (Ex × AS)}, allNrm l = true → ∀ o ∈ l, o.1 = .nrm := by
  intro l
  induction l with
  | nil => intro _ o ho; cases ho
  | cons a l ih =>
    intro h o ho
    obtain ⟨e, s⟩ := a
    cases e with
    | nrm =>
      rcases List.mem_cons.1 ho with rfl | ho
      · rfl
      · exact ih h o ho
    | _ => cases h

def tmB (n : Nat) (t : Option (Nat × List CT)) (st : AS) : Bool :=
  Nat.beq st.tm.length n && (match t with
  | none => true
  | some (t, dc) => (match st.tm[t]? with | some (.pv (.one (.wptr true l))) => sctsB l (dc.map CT.emb) | _ => false))

def preB (env : Env) (fuel f n : Nat) (c1 c2 : Code) (cts : List CT) (t : Option (Nat × List CT)) (gl : List (Nat × List CT)) : Option (List VC) :=
  match exec2 env fuel f c1 c2 (startS n cts gl) with
  | some (outs, v) => bif allNrm outs && outs.all (fun o => tmB n t o.2) then some v else none
  | none => none

theorem preB_ok {env : Env} (hcon : ConOK env) {fuel f n : Nat} {c1 c2 c3 : Code} {cts : List CT} {t : Option (Nat × List CT)} {gl : List (Nat × List CT)} {vcs : List VC} (h : preB env fuel f n c1 c2 cts t gl = some vcs) (hv : ∀ y ∈ vcs, y.valid)
    {χ : Chi} {w : World} {b : Nat} (hgl : GlOK χ gl) (hinv : Inv env.P χ w) (hn : 1 ≤ n) (hb : χ.A b) (hκ : ∀ i, i < cts.length → χ.κ b (0 + i) = cts[i]?) {Q : Exit → Act → World → Prop}
    (hQ : ∀ a' w' s' χ', gS ⟨env.P, χ.shut, w⟩ s' χ' a' w' → a'.tmps.size = n → (∀ t0 dc, t = some (t0, dc) → ∃ b o, a'.eval (.tmp t0) = .pointer (some ⟨b, o, none⟩) ∧ χ'.F b ∧ ∀ i, i < dc.length → χ'.κ b (o + i) = dc[i]?) → c3.wp env.P Q a' w') :
    (Code.seq c1 (.seq c2 c3)).wp env.P Q { tmps := #[.pointer (some ⟨b, 0, none⟩)] ++ Array.replicate (n - 1) undef, defers := [] } w := by
  unfold preB at h
  split at h
  rotate_left
  · cases h
  rename_i outs v he
  cases hb2 : (allNrm outs && outs.all (fun o => tmB n t o.2)) with
  | false => rw [hb2] at h; cases h
  | true =>
    rw [hb2] at h
    cases h
    rw [Bool.and_eq_true] at hb2
    have hst := start_ok (P := env.P) (n := n) (cts := cts) hgl hinv hn hb hκ
    refine exec2_ok (X := ⟨env.P, χ.shut, w⟩) hcon he rfl hv hst (fun a' w' s' hs' ⟨χ', hg⟩ => ?_) (allNrm_ok hb2.1)
    have htm := List.all_eq_true.1 hb2.2 _ hs'
    simp only [tmB, Bool.and_eq_true] at htm
    have hsz : s'.tm.length = n := by simpa using htm.1
    refine hQ a' w' s' χ' hg (by rw [← hg.size]; exact hsz) fun t0 dc ht => ?_
    have h2 := htm.2
    rw [ht] at h2
    simp only at h2
    split at h2
    · rename_i l hl
      have hl2 := sctsB_eq h2
      subst hl2
      obtain ⟨bb, oo, h1, h3, h4⟩ := hg.tm t0 _ hl
      refine ⟨bb, oo, h1, h3, fun i hi => ?_⟩
      rw [h4 i (by simpa using hi), List.map_map]
      have : (SCT.ev χ'.ρ ∘ CT.emb) = id := by funext c; simp [CT.ev_emb]
      rw [this, List.map_id]
    · cases h2

def Chi.withGl (χ : Chi) (gl : List (Nat × List CT)) : Chi :=
  { χ with A := fun b => χ.A b ∨ ∃ p ∈ gl, p.1 = b, κ := fun b i => match gl.find? (fun p => Nat.beq p.1 b) with | some p => p.2[i]? | .none => χ.κ b i }

theorem Chi.withGl_κ {χ : Chi} {gl : List (Nat × List CT)} (hna : ∀ p ∈ gl, ¬ χ.A p.1) {b : Nat} (hb : χ.A b) (i : Nat) : (χ.withGl gl).κ b i = χ.κ b i := by
  simp only [Chi.withGl]
  split
  · rename_i p hp
    have e : p.1 = b := by have := List.find?_some hp; simpa using this
    exact absurd (e ▸ hb) (hna p (List.mem_of_find?_eq_some hp))
  · rfl

theorem Chi.withGl_ext {χ : Chi} {gl : List (Nat × List CT)} (hna : ∀ p ∈ gl, ¬ χ.A p.1) : Ext 0 χ (χ.withGl gl) := ⟨fun _ _ => rfl, fun _ h => h, fun _ h => .inl h, fun b hb i => Chi.withGl_κ hna hb i⟩

def glDistinct : List (Nat × List CT) → Bool
  | [] => true
  | p :: l => l.all (fun q => !(Nat.beq q.1 p.1)) && glDistinct l

theorem glDistinct_find : ∀ {gl : List (Nat × List CT)}, glDistinct gl = true → ∀ p ∈ gl, gl.find? (fun q => Nat.beq q.1 p.1) = some p := by
  intro gl
  induction gl with
  | nil => intro _ p hp; cases hp
  | cons a l ih =>
    intro h p hp
    simp only [glDistinct, Bool.and_eq_true] at h
    rcases List.mem_cons.1 hp with rfl | hp
    · simp
    · have hne : ¬ a.1 = p.1 := by
        have := List.all_eq_true.1 h.1 p hp
        intro e
        simp [e] at this
      rw [List.find?_cons_of_neg (by simpa using hne)]
      exact ih h.2 p hp

theorem Chi.withGl_at {χ : Chi} {gl : List (Nat × List CT)} (hd : glDistinct gl = true) {p : Nat × List CT} (hp : p ∈ gl) (i : Nat) : (χ.withGl gl).κ p.1 i = p.2[i]? := by
  simp only [Chi.withGl, glDistinct_find hd p hp]

theorem GlOK.withGl {χ : Chi} {gl : List (Nat × List CT)} (hd : glDistinct gl = true) : GlOK (χ.withGl gl) gl :=
  fun p hp => ⟨.inr ⟨p, hp, rfl⟩, fun i => Chi.withGl_at hd hp i⟩

theorem Inv.withGl {P : Program} {χ : Chi} {w : World} {gl : List (Nat × List CT)} (h : Inv P χ w) (hw : GlobW P w gl) (hd : glDistinct gl = true) (hna : ∀ p ∈ gl, ¬ χ.A p.1) : Inv P (χ.withGl gl) w := by
  have hx := Chi.withGl_ext hna
  refine ⟨fun b hb => .inl (h.sub b hb), fun b hb => ?_, fun b hb => ?_, fun b hb => h.unfr b hb⟩
  · rcases hb with hb | ⟨p, hp, rfl⟩
    · exact (h.blockA b hb).ext hx (fun _ h => .inl h) (fun _ h => h) hb rfl
    · obtain ⟨cs, E, fz, h1, h2, _⟩ := hw p hp
      refine ⟨cs, E, fz, h1, fun i => ?_⟩
      have := h2 (χ.withGl gl) (χ.withGl gl).A i
      simp only [kkOf] at this
      rw [Chi.withGl_at hd hp]
      exact this
  · exact (h.blockF b hb).ext hx (fun _ h => h) (fun b h1 => h.sub b h1) (h.sub b hb) rfl

theorem find_results {r : Tmp} {fn : Func} (hr : fn.results = #[.tmp r]) (tmps : Array Value) (P : Program) (w : World) : (results fn tmps).run P w = .ok (tmps.getD r undef) w := by
  simp [results, hr]

theorem CallOK.nil {env : Env} (hcon : ConOK env) {T3 T9 m fuel f n id r y1 : Nat} {p1 : String} {f1 : Array Edge} {fn : Func} {c1 c2 : Code} {d : D} {gl : List (Nat × List CT)} {vcs : List VC} (h : preB env fuel f n c1 c2 (d.cts.map (CT.bd m)) none gl = some vcs) (hv : ∀ y ∈ vcs, y.valid) (hd : glDistinct gl = true)
    (hf : env.P.funcs[f]? = some fn) (hn : fn.ntmps = n) (hr : fn.results = #[.tmp r]) (hrn : (Nat.blt r n && Nat.ble 1 n) = true)
    (hb : fn.body = some (.seq c1 (.seq c2 (.seq (.region id #[⟨some r, .assign (.const (.slice none 0 0)), y1, p1, f1, none⟩] false) .ret)))) : CallOK env.P T3 T9 m f d gl := by
  intro w χ b cs E hinv hA hc ht hgw hga _
  simp only [Bool.and_eq_true, Nat.blt_eq, Nat.ble_eq] at hrn
  have hplus := addF_only hinv hA hc ht
  have hna : ∀ p ∈ gl, ¬ (χ.addF b (kkOf (d.cts.map (CT.bd m)))).A p.1 := fun p hp h => by
    rcases h with h | h
    · exact (hga p hp).1 h
    · exact (hga p hp).2 h
  have hgl := GlOK.withGl (χ := χ.addF b (kkOf (d.cts.map (CT.bd m)))) hd
  have hinvg := Inv.withGl hplus.1 hgw hd hna
  refine calls_of_wp hf hb ?_
  rw [hn]
  refine preB_ok (b := b) hcon h hv hgl hinvg hrn.2 (.inl (.inr rfl)) (fun i hi => (Chi.withGl_κ hna (.inr rfl) _).trans (addF_at i hi)) ?_
  intro a' w' s' χ' hg hsz _
  refine wp_seq (wp_region (wpOps1 rfl (wp_assign rfl ?_)))
  refine wp_ret ⟨hg.defers, .slice none 0 0, ?_, ?_⟩
  · rw [find_results hr]
    simp [Act.put, getD_set, hsz, hrn.1, Act.eval]
  · exact ⟨_, [], fun _ => Chi.none, rfl, hg.grown, .inl ⟨rfl, rfl⟩, Nat.zero_le _, fun _ => InvF.none _ _, fun _ _ h => h.elim, fun i c hc => by simp at hc, fun _ _ _ _ h => h.elim, fun lb l c h => (nomatch h)⟩

theorem grown_alloc' {w w' : World} (h : w.grownBy w' none) (o : Obj) : w.grownBy (w'.alloc o) none := grown_trans h (grown_alloc w' o)

theorem CallOK.one {env : Env} (hcon : ConOK env) {T3 T9 m fuel f n id r t s1 s2 g T e y1 y2 y3 : Nat} {p1 p2 p3 : String} {f1 f2 f3 : Array Edge} {fn : Func} {c1 c2 : Code} {d dr : D} {gl : List (Nat × List CT)} {vcs : List VC} (h : preB env fuel f n c1 c2 (d.cts.map (CT.bd m)) (some (t, dr.cts)) gl = some vcs) (hv : ∀ y ∈ vcs, y.valid) (hd : glDistinct gl = true)
    (hf : env.P.funcs[f]? = some fn) (hn : fn.ntmps = n) (hr : fn.results = #[.tmp r]) (hrn : (Nat.blt r n && Nat.ble 1 n && Nat.blt s1 n && Nat.blt s2 n) = true)
    (hu : env.P.underlying T = some (.slice e)) (hsz : sizeAt env.P e = some 1) {z : Value} (hz : zeroAt env.P e = some z) (hz1 : z.cells.size = 1)
    (hb : fn.body = some (.seq c1 (.seq c2 (.seq (.region id #[⟨some s1, .makeFunc (.func g) #[] #[.tmp t], y1, p1, f1, none⟩, ⟨some s2, .buildSlice T 1 #[(0, .tmp s1)], y2, p2, f2, none⟩, ⟨some r, .assign (.tmp s2), y3, p3, f3, none⟩] false) .ret))))
    (hS : ∀ b o, ClosS env.P T3 T9 ⟨g, b, o, dr⟩) : CallOK env.P T3 T9 m f d gl := by
  intro w χ b cs E hinv hA hc ht hgw hga _
  simp only [Bool.and_eq_true, Nat.blt_eq, Nat.ble_eq] at hrn
  obtain ⟨⟨⟨q1, q2⟩, q3⟩, q4⟩ := hrn
  have hplus := addF_only hinv hA hc ht
  have hna : ∀ p ∈ gl, ¬ (χ.addF b (kkOf (d.cts.map (CT.bd m)))).A p.1 := fun p hp h => by
    rcases h with h | h
    · exact (hga p hp).1 h
    · exact (hga p hp).2 h
  have hgl := GlOK.withGl (χ := χ.addF b (kkOf (d.cts.map (CT.bd m)))) hd
  have hinvg := Inv.withGl hplus.1 hgw hd hna
  refine calls_of_wp hf hb ?_
  rw [hn]
  refine preB_ok (b := b) hcon h hv hgl hinvg q2 (.inl (.inr rfl)) (fun i hi => (Chi.withGl_κ hna (.inr rfl) _).trans (addF_at i hi)) ?_
  intro a' w' s' χ' hg hsz' ht'
  obtain ⟨rb, ro, e1, e2, e3⟩ := ht' t _ rfl
  refine wp_seq (wp_region (wpOps3 rfl rfl rfl (wp_makeFunc rfl (wp_build1 (v := .func (.func g) #[] #[.pointer (some ⟨rb, ro, none⟩)]) rfl hu hsz hz hz1 ?_ rfl (wp_assign rfl ?_)))))
  · rw [eval_put, if_pos ⟨rfl, by omega⟩, e1]
  · refine wp_ret ⟨hg.defers, .slice (some ⟨w'.heap.size, 0, none⟩) 1 1, ?_, ?_⟩
    · rw [find_results hr]
      simp only [Act.put_tmps, getD_set, Array.size_setIfInBounds]
      rw [if_pos ⟨trivial, by omega⟩, eval_put, if_pos ⟨rfl, by rw [put_size]; omega⟩]
    · refine ⟨_, [⟨g, rb, ro, dr⟩], χ'.only.at0, rfl, grown_alloc' hg.grown _, .inr ⟨w'.heap.size, 1, rfl, ?_, fun i c hi => ?_⟩, by show 1 ≤ 2; omega, ?_, ?_, ?_, Chi.at0_sep _, fun lb l c h => ?_⟩
      · show w'.heap.size < (w'.heap.push _).size
        simp
      · cases i with
        | zero =>
          simp only [List.getElem?_cons_zero, Option.some.injEq] at hi
          subst hi
          rw [cell?_blk (by rw [alloc_get, if_pos rfl])]
          rfl
        | succ i => simp at hi
      · intro i
        cases i with
        | zero =>
          refine hg.inv.only.same fun k hk => ?_
          have hlt : k < w'.heap.size := hg.inv.lt (hg.inv.sub k hk)
          rw [alloc_get, if_neg (by omega)]
        | succ i => exact InvF.none _ _
      · intro i b' hb'
        cases i with
        | zero => exact hg.fresh b' hb'
        | succ i => exact hb'.elim
      · intro i c hc
        cases i with
        | zero =>
          simp only [List.getElem?_cons_zero, Option.some.injEq] at hc
          subst hc
          refine ⟨⟨e2, fun i hi => ?_⟩, hS rb ro⟩
          exact e3 i (by rw [D.cts_len]; exact hi)
        | succ i => simp at hc
      · cases h
        refine ⟨hg.mem.size, fun i h => ?_⟩
        cases i with
        | zero => have := hg.inv.lt (hg.inv.sub _ h); omega
        | succ i => exact h

theorem ConOK.cons {P : Program} {l : List (Nat × Contract)} {inl inl' : List Nat} {ann ann' : List (Nat × Nat × LoopAnn)} {wa wa' : Bool} {f : Nat} {c : Contract} (h : FnOK P f c) (hl : ConOK { P := P, con := l, inl := inl, ann := ann, wa := wa }) : ConOK { P := P, con := (f, c) :: l, inl := inl', ann := ann', wa := wa' } := by
  intro g c' hg
  simp only [Env.getCon, Env.getCon.go] at hg
  cases hb : Nat.beq f g with
  | true =>
    rw [hb] at hg
    cases hg
    have : f = g := by simpa using hb
    rw [← this]; exact h
  | false => rw [hb] at hg; exact hl g c' hg

theorem valids_nil : ∀ y ∈ ([] : List VC), y.valid := fun y hy => nomatch hy
theorem valids_cons {x : VC} {l : List VC} (h : x.valid) (hl : ∀ y ∈ l, y.valid) : ∀ y ∈ x :: l, y.valid := fun y hy => by
  rcases List.mem_cons.1 hy with rfl | hy
  · exact h
  · exact hl y hy

end Go.Sx

namespace Go.Sx
open Go

theorem wp_still_tail {P : Program} {id : Nat} {Q : Exit → Act → World → Prop} {a : Act} {w : World} {l : List Oper} (n : Nat) (hm : P.follows .mixedOrders = true) (hB : Region.lexTailB .any l.toArray n = true)
    (h : ∀ K : Act → Prop, (∀ a', wpList P l.toArray Q (l.drop n) a' w.drew → K a') → wpStill P l.toArray w.drew K (l.take n) a) : (Code.region id l.toArray true).wp P Q a w :=
  wp_region_still_tail n hm hB (h _ fun _ h => h)

theorem grown_drew {w w' : World} (h : w.grownBy w' none) : w.grownBy w'.drew none := ⟨h.os, h.tape, h.output, h.size, h.block⟩

theorem grown_refl (w : World) : w.grownBy w none := ⟨rfl, rfl, rfl, Nat.le_refl _, fun _ _ _ => rfl⟩

theorem Eye1.grown {T3 T9 lo : Nat} {w w' : World} {be oe : Nat} {st : Seen} (h : Eye1 T3 T9 lo w be oe st) (hg : w.grownBy w' none) : Eye1 T3 T9 lo w' be oe st := by
  obtain ⟨vn, vs, base, at_, q0, q1, q2, q3, q4, q5, q6⟩ := h.h
  have hb : ∀ {o v}, w.cell? ⟨be, o, none⟩ = some v → w'.cell? ⟨be, o, none⟩ = some v := fun {o v} hc =>
    (World.cell?_of_block (a := ⟨be, o, none⟩) (hg.block be (World.block_lt_of_cell? w _ hc) (by simp))).trans hc
  exact ⟨vn, vs, base, at_, hb q0, hb q1, hb q2, hb q3, q4.kept hg (by cases vn.ownBlock <;> simp), q5.kept hg (by cases vs.ownBlock <;> simp), q6⟩

end Go.Sx
