/- Part JB of a proof: helper lemmas; no conditions. -/
import Derived.Test.YtadhlkgjiccdpaaGreatDoorJ

set_option linter.unusedSimpArgs false
set_option linter.unusedVariables false

/-
  A function of a law that answers two values that are looked at; the second holds no memory of its own but its block.
-/
namespace Go.Sx
open Go

/-- values that name no memory -/
def flatSV : SV → Bool
  | .int _ _ => true
  | .bool _ => true
  | .str _ => true
  | .nilS => true
  | _ => false

theorem flat_ok {P : Program} {χ χ' : Chi} {S S' : Nat → Prop} {x : SV} {ct : CT} {v : Value} (hf : flatSV x = true) (hx : gSV P χ x v) (h : CellOK P χ S ct v) : CellOK P χ' S' ct v := by
  cases ct with
  | slice E =>
    obtain ⟨ao, l, c, rfl, h1, h2, h3, h4⟩ := h
    cases x with
    | nilS => cases hx; exact ⟨none, 0, 0, rfl, h1, h2, h3, rfl⟩
    | int k t => cases hx
    | bool f => cases hx
    | str t => obtain ⟨s, e, _⟩ := hx; cases e
    | _ => cases hf
  | sliceB m E =>
    obtain ⟨ao, l, c, rfl, h1, h2, h3, h4⟩ := h
    cases x with
    | nilS => cases hx; exact ⟨none, 0, 0, rfl, h1, h2, h3, rfl⟩
    | int k t => cases hx
    | bool f => cases hx
    | str t => obtain ⟨s, e, _⟩ := hx; cases e
    | _ => cases hf
  | int k lo hi => exact h
  | bool => exact h
  | str => exact h
  | strB m => exact h
  | any => exact h

theorem flatL_ok {P : Program} {χ : Chi} {S : Nat → Prop} : ∀ {l : List SV} {dc : List CT} {vs : List Value}, l.all flatSV = true → All2 (gSV P χ) l vs → All2 (fun c v => CellOK P χ S (c.ev χ.ρ) v) (dc.map CT.emb) vs →
    ∀ (χ'' : Chi) (S'' : Nat → Prop), TypedBy P χ'' S'' vs.toArray (kkOf dc)
  | [], [], [], _, _, _ => fun χ'' S'' i => by simp [kkOf]
  | [], _ :: _, [], _, _, h => h.elim
  | [], _, _ :: _, _, h, _ => h.elim
  | _ :: _, _, [], _, h, _ => h.elim
  | _ :: _, [], _ :: _, _, _, h => h.elim
  | x :: l, c :: dc, v :: vs, hf, h1, h2 => fun χ'' S'' i => by
    simp only [List.all_cons, Bool.and_eq_true] at hf
    have hc : CellOK P χ S (c.emb.ev χ.ρ) v := h2.1
    rw [CT.ev_emb] at hc
    cases i with
    | zero => simpa [kkOf] using flat_ok hf.1 h1.1 hc
    | succ i =>
      have := flatL_ok hf.2 h1.2 h2.2 χ'' S'' i
      simpa [kkOf] using this

/-- an end of the piece: the first variable's block taken into typed memory, the second's flat -/
def twoOne (P : Program) (n t t' : Nat) (dc : List CT) (st : AS) : Option (List VC) :=
  match st.tm[t]? with
  | some (.pv (.one (.ptr b _))) =>
    match weaken P st b with
    | some (s', v) =>
      match s'.tm[t']? with
      | some (.pv (.one (.ptr b' 0))) =>
        match hpFind b' s'.hp with
        | some e =>
          match fitsL s' e.cells (dc.map CT.emb) with
          | some v2 => bif tmB n (some (t, dc)) s' && e.cells.all flatSV then some (v ++ v2) else none
          | none => none
        | none => none
      | _ => none
    | none => none
  | _ => none

theorem twoOne_ok {X : Ctx} {n t t' : Nat} {dc : List CT} {st : AS} {vcs : List VC} (h : twoOne X.P n t t' dc st = some vcs) (hv : ∀ y ∈ vcs, y.valid) {χ : Chi} {a : Act} {w : World} (hg : gS X st χ a w) :
    ∃ χ' s', gS X s' χ' a w ∧ a.tmps.size = n ∧ (∃ b o, a.eval (.tmp t) = .pointer (some ⟨b, o, none⟩) ∧ χ'.F b ∧ ∀ i, i < dc.length → χ'.κ b (o + i) = dc[i]?) ∧
      ∃ b' cs E, a.eval (.tmp t') = .pointer (some ⟨b', 0, none⟩) ∧ ¬ χ'.A b' ∧ X.w₀.heap.size ≤ b' ∧ w.heap[b']? = some (.cells cs E (0, 0)) ∧ ∀ (χ'' : Chi) (S : Nat → Prop), TypedBy X.P χ'' S cs (kkOf dc) := by
  unfold twoOne at h
  split at h
  rotate_left
  · cases h
  split at h
  rotate_left
  · cases h
  rename_i s' v hw
  split at h
  rotate_left
  · cases h
  rename_i b' hb'
  split at h
  rotate_left
  · cases h
  rename_i e he
  split at h
  rotate_left
  · cases h
  rename_i v2 hfit
  cases hb : (tmB n (some (t, dc)) s' && e.cells.all flatSV) with
  | false => rw [hb] at h; cases h
  | true =>
    rw [hb] at h
    cases h
    simp only [Bool.and_eq_true] at hb
    obtain ⟨htm, hflat⟩ := hb
    obtain ⟨χ', hx, hg', _⟩ := weaken_ok hw (fun y hy => hv y (by simp [hy])) hg
    simp only [tmB, Bool.and_eq_true] at htm
    have hsz : s'.tm.length = n := by simpa using htm.1
    refine ⟨χ', s', hg', by rw [← hg'.size]; exact hsz, ?_, ?_⟩
    · have h2 := htm.2
      split at h2
      · rename_i l hl
        have hl2 := sctsB_eq h2
        subst hl2
        obtain ⟨bb, oo, h1, h3, h4⟩ := hg'.tm t _ hl
        refine ⟨bb, oo, h1, h3, fun i hi => ?_⟩
        rw [h4 i (by simpa using hi), List.map_map]
        have : (SCT.ev χ'.ρ ∘ CT.emb) = id := by funext c; simp [CT.ev_emb]
        rw [this, List.map_id]
      · cases h2
    · obtain ⟨hm, hbe⟩ := hpFind_mem he
      subst hbe
      obtain ⟨k1, k2, cs, k3, k4, _⟩ := hg'.hp e hm
      have hp : a.tmps.getD t' undef = .pointer (some ⟨(χ'.ρ e.b).toNat, 0, none⟩) := hg'.tm t' _ hb'
      have hty := flatL_ok hflat k4 (fitsL_ok hg' hfit (fun y hy => hv y (by simp [hy])) k4)
      exact ⟨_, cs, e.E, hp, k2, k1, k3, hty⟩

theorem wp_build2 {P : Program} {o : Oper} {T e : Nat} {x y : Operand} {a : Act} {w : World} {K : Act → World → Prop} {Q : Exit → Act → World → Prop} (ho : o.op = .buildSlice T 2 #[(0, x), (1, y)]) (hu : P.underlying T = some (.slice e)) (hsz : sizeAt P e = some 1) {z : Value} (hz : zeroAt P e = some z) (hz1 : z.cells.size = 1)
    {v u : Value} (hx : a.eval x = v) (hv : v.cells = #[v]) (hy : a.eval y = u) (hu2 : u.cells = #[u]) (h : K (a.put o.dst (.slice (some ⟨w.heap.size, 0, none⟩) 2 2)) (w.alloc (.cells #[v, u] e))) : o.wp P a w K Q := by
  refine Oper.wp_val (v := .slice (some ⟨w.heap.size, 0, none⟩) 2 2) (w' := w.alloc (.cells #[v, u] e)) ?_ h
  have hr : (Instr.buildSlice T 2 #[(0, v), (1, u)]).run P w = .ok (.slice (some ⟨w.heap.size, 0, none⟩) 2 2) (w.alloc (.cells #[v, u] e)) := by
    unfold Instr.buildSlice
    rw [Sem.run_bind, run_und hu]
    simp only [Result.andThen_ok]
    rw [Sem.run_bind, run_sizeAt hsz]
    simp only [Result.andThen_ok]
    rw [if_neg (by omega), if_neg (by omega)]
    have hf0 : Instr.fill (fun i => some (i * 1, 1)) ((Array.range (2 * 1)).map (z.cells[· % z.cells.size]!)) (#[(0, v), (1, u)] : Array (Nat × Value)).toList = some #[v, u] := by
      simp [Instr.fill, hv, hz1, hu2]
      rw [show Array.range 2 = #[0, 1] from rfl]
      simp
    simp only [Sem.run_bind, run_zeroAt hz, Sem.run_pure, Result.andThen_ok, hf0]
    rfl
  simp only [execOp, ho, List.map_toArray, List.map_cons, List.map_nil, hx, hy, Sem.run_bind, hr, Result.andThen_ok]
  rfl

def twoAll (P : Program) (n t t' : Nat) (dc : List CT) : List (Ex × AS) → Option (List VC)
  | [] => some []
  | (_, st) :: l => match twoOne P n t t' dc st, twoAll P n t t' dc l with
    | some a, some b => some (a ++ b)
    | _, _ => none

theorem twoAll_mem {P : Program} {n t t' : Nat} {dc : List CT} : ∀ {l : List (Ex × AS)} {vcs : List VC}, twoAll P n t t' dc l = some vcs → ∀ o ∈ l, ∃ v, twoOne P n t t' dc o.2 = some v ∧ ∀ y ∈ v, y ∈ vcs := by
  intro l
  induction l with
  | nil => intro _ _ o ho; cases ho
  | cons p l ih =>
    intro vcs h o ho
    obtain ⟨e, st⟩ := p
    simp only [twoAll] at h
    split at h
    · rename_i a b ha hb
      cases h
      rcases List.mem_cons.1 ho with rfl | ho
      · exact ⟨a, ha, fun y hy => by simp [hy]⟩
      · obtain ⟨v, h1, h2⟩ := ih hb o ho
        exact ⟨v, h1, fun y hy => by simp [h2 y hy]⟩
    · cases h

/-- an environment in which a function is stepped into -/
def Env.drop (env : Env) (k : Nat) : Env := { env with con := env.con.filter (fun p => !(Nat.beq p.1 k)), inl := k :: env.inl }
theorem nbeq_ne {a b : Nat} (h : a ≠ b) : Nat.beq a b = false := Bool.eq_false_iff.2 (fun e => h (Nat.eq_of_beq_eq_true e))

theorem getCon_filter {k f : Nat} {c : Contract} : ∀ {l : List (Nat × Contract)}, Env.getCon.go f (l.filter (fun p => !(Nat.beq p.1 k))) = some c → Env.getCon.go f l = some c := by
  intro l
  induction l with
  | nil => exact fun h => h
  | cons p l ih =>
    intro h
    obtain ⟨g, c'⟩ := p
    by_cases hk : g = k
    · subst hk
      rw [List.filter_cons_of_neg (by simp only [Nat.beq_refl, Bool.not_true]; exact Bool.false_ne_true)] at h
      by_cases hf : g = f
      · subst hf
        exfalso
        clear ih
        induction l with
        | nil => cases h
        | cons q l ih =>
          by_cases hq : q.1 = g
          · rw [List.filter_cons_of_neg (by show ¬ (!(Nat.beq q.1 g)) = true; rw [hq, Nat.beq_refl]; exact Bool.false_ne_true)] at h
            exact ih h
          · have e : Nat.beq q.1 g = false := nbeq_ne hq
            rw [List.filter_cons_of_pos (by show (!(Nat.beq q.1 g)) = true; rw [e]; rfl)] at h
            simp only [Env.getCon.go, e, cond_false] at h
            exact ih h
      · have e : Nat.beq g f = false := nbeq_ne hf
        simp only [Env.getCon.go, e, cond_false]
        exact ih h
    · rw [List.filter_cons_of_pos (by show (!(Nat.beq g k)) = true; rw [nbeq_ne hk]; rfl)] at h
      by_cases hf : g = f
      · subst hf
        simp only [Env.getCon.go, Nat.beq_refl, cond_true] at h ⊢
        exact h
      · have e : Nat.beq g f = false := nbeq_ne hf
        simp only [Env.getCon.go, e, cond_false] at h ⊢
        exact ih h
theorem ConOK.drop {env : Env} (k : Nat) (h : ConOK env) : ConOK (env.drop k) := fun f c hc => h f c (getCon_filter hc)

/-- the piece ahead of a function's end, run; two variables are looked at -/
def preT (env : Env) (fuel f n : Nat) (c1 c2 : Code) (cts : List CT) (t t' : Nat) (dc : List CT) (gl : List (Nat × List CT)) : Option (List VC) :=
  match exec2 env fuel f c1 c2 (startS n cts gl) with
  | some (outs, v) => match twoAll env.P n t t' dc outs with
    | some v2 => bif allNrm outs then some (v ++ v2) else none
    | none => none
  | none => none

theorem preT_ok {env : Env} (hcon : ConOK env) {fuel f n : Nat} {c1 c2 c3 : Code} {cts : List CT} {t t' : Nat} {dc : List CT} {gl : List (Nat × List CT)} {vcs : List VC} (h : preT env fuel f n c1 c2 cts t t' dc gl = some vcs) (hv : ∀ y ∈ vcs, y.valid)
    {χ : Chi} {w : World} {b : Nat} (hgl : GlOK χ gl) (hinv : Inv env.P χ w) (hn : 1 ≤ n) (hb : χ.A b) (hκ : ∀ i, i < cts.length → χ.κ b (0 + i) = cts[i]?) {Q : Exit → Act → World → Prop}
    (hQ : ∀ a' w' s' χ', gS ⟨env.P, χ.shut, w⟩ s' χ' a' w' → a'.tmps.size = n → (∃ b o, a'.eval (.tmp t) = .pointer (some ⟨b, o, none⟩) ∧ χ'.F b ∧ ∀ i, i < dc.length → χ'.κ b (o + i) = dc[i]?) →
      (∃ b' cs E, a'.eval (.tmp t') = .pointer (some ⟨b', 0, none⟩) ∧ ¬ χ'.A b' ∧ w.heap.size ≤ b' ∧ w'.heap[b']? = some (.cells cs E (0, 0)) ∧ ∀ (χ'' : Chi) (S : Nat → Prop), TypedBy env.P χ'' S cs (kkOf dc)) → c3.wp env.P Q a' w') :
    (Code.seq c1 (.seq c2 c3)).wp env.P Q { tmps := #[.pointer (some ⟨b, 0, none⟩)] ++ Array.replicate (n - 1) undef, defers := [] } w := by
  unfold preT at h
  split at h
  rotate_left
  · cases h
  rename_i outs v he
  split at h
  rotate_left
  · cases h
  rename_i v2 ht
  cases hb2 : allNrm outs with
  | false => rw [hb2] at h; cases h
  | true =>
    rw [hb2] at h
    cases h
    have hst := start_ok (P := env.P) (n := n) (cts := cts) hgl hinv hn hb hκ
    refine exec2_ok (X := ⟨env.P, χ.shut, w⟩) hcon he rfl (fun y hy => hv y (by simp [hy])) hst (fun a' w' s' hs' ⟨χ', hg⟩ => ?_) (allNrm_ok hb2)
    obtain ⟨v3, h1, h2⟩ := twoAll_mem ht _ hs'
    obtain ⟨χ2, s2, g2, g3, g4, g5⟩ := twoOne_ok (X := ⟨env.P, χ.shut, w⟩) h1 (fun y hy => hv y (by simp [h2 y hy])) hg
    exact hQ a' w' s2 χ2 g2 g3 g4 g5

theorem wpOps4 {P : Program} {Q : Exit → Act → World → Prop} {o0 o1 o2 o3 : Oper} {a : Act} {w : World} (h0 : o0.guard = none) (h1 : o1.guard = none) (h2 : o2.guard = none) (h3 : o3.guard = none)
    (h : o0.wp P a w (fun a w => o1.wp P a w (fun a w => o2.wp P a w (fun a w => o3.wp P a w (Q .normal) Q) Q) Q) Q) : wpOps P #[o0, o1, o2, o3] Q (List.range (#[o0, o1, o2, o3] : Array Oper).size) a w := by
  have e : List.range (#[o0, o1, o2, o3] : Array Oper).size = [0, 1, 2, 3] := rfl
  rw [e]
  simp only [wpOps, List.getElem?_toArray, List.getElem?_cons_zero, List.getElem?_cons_succ, Region.wanted, h0, h1, h2, h3, if_true]
  refine .inl (Oper.wp_mono (fun a w k => ?_) h)
  refine .inl (Oper.wp_mono (fun a w k => ?_) k)
  refine .inl (Oper.wp_mono (fun a w k => ?_) k)
  exact .inl k

/-- the first memory, and the second -/
def Chi.at2 (x y : Chi) : Nat → Chi
  | 0 => x
  | 1 => y
  | _ => Chi.none

/-- a function of a law that answers two values that are looked at -/
theorem CallOK.two {env : Env} (hcon : ConOK env) {T3 T9 m fuel f n id r t t' s1 s2 s3 g g' T e y1 y2 y3 y4 : Nat} {p1 p2 p3 p4 : String} {f1 f2 f3 f4 : Array Edge} {fn : Func} {c1 c2 : Code} {d dr : D} {gl : List (Nat × List CT)} {vcs : List VC} (h : preT env fuel f n c1 c2 (d.cts.map (CT.bd m)) t t' dr.cts gl = some vcs) (hv : ∀ y ∈ vcs, y.valid) (hd : glDistinct gl = true)
    (hf : env.P.funcs[f]? = some fn) (hn : fn.ntmps = n) (hr : fn.results = #[.tmp r]) (hrn : (Nat.blt r n && Nat.ble 1 n && Nat.blt s1 n && Nat.blt s2 n && Nat.blt s3 n && !(Nat.beq s1 s2) && !(Nat.beq s1 t')) = true)
    (hu : env.P.underlying T = some (.slice e)) (hsz : sizeAt env.P e = some 1) {z : Value} (hz : zeroAt env.P e = some z) (hz1 : z.cells.size = 1)
    (hb : fn.body = some (.seq c1 (.seq c2 (.seq (.region id #[⟨some s1, .makeFunc (.func g) #[] #[.tmp t], y1, p1, f1, none⟩, ⟨some s2, .makeFunc (.func g') #[] #[.tmp t'], y2, p2, f2, none⟩, ⟨some s3, .buildSlice T 2 #[(0, .tmp s1), (1, .tmp s2)], y3, p3, f3, none⟩, ⟨some r, .assign (.tmp s3), y4, p4, f4, none⟩] false) .ret))))
    (hS : ∀ b o, ClosS env.P T3 T9 ⟨g, b, o, dr⟩) (hS' : ∀ b o, ClosS env.P T3 T9 ⟨g', b, o, dr⟩) : CallOK env.P T3 T9 m f d gl := by
  intro w χ b cs E hinv hA hc ht hgw hga _
  simp only [Bool.and_eq_true, Nat.blt_eq, Nat.ble_eq, Bool.not_eq_true'] at hrn
  obtain ⟨⟨⟨⟨⟨⟨q1, q2⟩, q3⟩, q4⟩, q5⟩, q6⟩, q7⟩ := hrn
  have q6 : s1 ≠ s2 := fun e => by rw [e, Nat.beq_refl] at q6; cases q6
  have q7 : s1 ≠ t' := fun e => by rw [e, Nat.beq_refl] at q7; cases q7
  have hplus := addF_only hinv hA hc ht
  have hna : ∀ p ∈ gl, ¬ (χ.addF b (kkOf (d.cts.map (CT.bd m)))).A p.1 := fun p hp h => by
    rcases h with h | h
    · exact (hga p hp).1 h
    · exact (hga p hp).2 h
  have hgl := GlOK.withGl (χ := χ.addF b (kkOf (d.cts.map (CT.bd m)))) hd
  have hinvg := Inv.withGl hplus.1 hgw hd hna
  refine calls_of_wp hf hb ?_
  rw [hn]
  refine preT_ok (b := b) hcon h hv hgl hinvg q2 (.inl (.inr rfl)) (fun i hi => (Chi.withGl_κ hna (.inr rfl) _).trans (addF_at i hi)) ?_
  intro a' w' s' χ' hg hsz' ht1 ht2
  obtain ⟨rb, ro, e1, e2, e3⟩ := ht1
  obtain ⟨b2, cs2, E2, k1, k2, k3, k4, k5⟩ := ht2
  have hlt2 := lt_of_blk k4
  refine wp_seq (wp_region (wpOps4 rfl rfl rfl rfl (wp_makeFunc rfl (wp_makeFunc rfl (wp_build2 (v := .func (.func g) #[] #[.pointer (some ⟨rb, ro, none⟩)]) (u := .func (.func g') #[] #[.pointer (some ⟨b2, 0, none⟩)]) rfl hu hsz hz hz1 ?_ rfl ?_ rfl (wp_assign rfl ?_))))))
  · rw [eval_put, if_neg (fun h => q6 h.1.symm), eval_put, if_pos ⟨rfl, by omega⟩, e1]
  · rw [eval_put, if_pos ⟨rfl, by rw [put_size]; omega⟩, eval_put, if_neg (fun h => q7 h.1), k1]
  · refine wp_ret ⟨hg.defers, .slice (some ⟨w'.heap.size, 0, none⟩) 2 2, ?_, ?_⟩
    · rw [find_results hr]
      simp only [Act.put_tmps, getD_set, Array.size_setIfInBounds]
      rw [if_pos ⟨trivial, by omega⟩, eval_put, if_pos ⟨rfl, by rw [put_size, put_size]; omega⟩]
    · have hblk : ∀ o k, k < w'.heap.size → (w'.alloc o).heap[k]? = w'.heap[k]? := fun o k hk => by rw [alloc_get, if_neg (by omega)]
      have hnone := addF_only (b := b2) (InvF.none env.P w') (fun h => h) k4 (k5 _ _)
      refine ⟨_, [⟨g, rb, ro, dr⟩, ⟨g', b2, 0, dr⟩], Chi.at2 χ'.only (Chi.none.addF b2 (kkOf dr.cts)), rfl, grown_alloc' hg.grown _, .inr ⟨w'.heap.size, 2, rfl, ?_, fun i c hi => ?_⟩, by show 2 ≤ 2; omega, ?_, ?_, ?_, ?_, fun lb l c h => ?_⟩
      · show w'.heap.size < (w'.heap.push _).size
        simp
      · match i, hi with
        | 0, hi =>
          simp only [List.getElem?_cons_zero, Option.some.injEq] at hi
          subst hi
          rw [cell?_blk (by rw [alloc_get, if_pos rfl])]
          rfl
        | 1, hi =>
          simp only [List.getElem?_cons_succ, List.getElem?_cons_zero, Option.some.injEq] at hi
          subst hi
          rw [cell?_blk (by rw [alloc_get, if_pos rfl])]
          rfl
      · intro i
        match i with
        | 0 => exact hg.inv.only.same fun k hk => hblk _ k (hg.inv.lt (hg.inv.sub k hk))
        | 1 =>
          refine hnone.same fun k hk => hblk _ k ?_
          rcases hk with hk | hk
          · exact hk.elim
          · rw [hk]; exact hlt2
        | _ + 2 => exact InvF.none _ _
      · intro i b' hb'
        match i, hb' with
        | 0, hb' => exact hg.fresh b' hb'
        | 1, hb' =>
          rcases hb' with hb' | rfl
          · exact hb'.elim
          · exact k3
        | _ + 2, hb' => exact hb'.elim
      · intro i c hc
        match i, hc with
        | 0, hc =>
          simp only [List.getElem?_cons_zero, Option.some.injEq] at hc
          subst hc
          exact ⟨⟨e2, fun i hi => e3 i (by rw [D.cts_len]; exact hi)⟩, hS rb ro⟩
        | 1, hc =>
          simp only [List.getElem?_cons_succ, List.getElem?_cons_zero, Option.some.injEq] at hc
          subst hc
          exact ⟨⟨.inr rfl, fun i hi => addF_at i (by rw [D.cts_len]; exact hi)⟩, hS' b2 0⟩
      · intro i j hij k hk hk'
        match i, j, hij, hk, hk' with
        | 0, 0, hij, _, _ => exact hij rfl
        | 0, 1, _, hk, hk' =>
          rcases hk' with hk' | rfl
          · exact hk'
          · exact k2 (hg.inv.sub _ hk)
        | 1, 0, _, hk, hk' =>
          rcases hk with hk | rfl
          · exact hk
          · exact k2 (hg.inv.sub _ hk')
        | 1, 1, hij, _, _ => exact hij rfl
        | _ + 2, _, _, hk, _ => exact hk
        | 0, _ + 2, _, _, hk' => exact hk'
        | 1, _ + 2, _, _, hk' => exact hk'
      · cases h
        refine ⟨hg.mem.size, fun i h => ?_⟩
        match i, h with
        | 0, h => have := hg.inv.lt (hg.inv.sub _ h); omega
        | 1, h =>
          rcases h with h | h
          · exact h
          · omega
        | _ + 2, h => exact h

end Go.Sx
