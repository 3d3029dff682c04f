/- Part TgC of a proof: helper lemmas; no conditions. -/
import Derived.Test.YtadhlkgjiccdpaaGreatDoorTgA

set_option linter.unusedSimpArgs false
set_option linter.unusedVariables false

namespace Go.Sx
open Go Go.Proofs

def treeC : List CT := [.int .u8 0 255, .int .u32 0 4294967295, .bool, .slice (.base 5), .slice (.base 61)]
theorem tauT : tau Tryz.prog (.base 61) = treeC := by kernel_rfl
theorem tauO : tau Tryz.prog (.base 5) = oct := by kernel_rfl

structure TreeF (χ : Chi) (vc vt : Int) (vb : Bool) (ao3 : Option Addr) (l3 c3 : Nat) (ao4 : Option Addr) (l4 c4 : Nat) : Prop where
  c0 : 0 ≤ vc ∧ vc ≤ 255
  t0 : 0 ≤ vt ∧ vt ≤ 4294967295
  l3 : l3 ≤ c3 ∧ l3 ≤ LB ∧ c3 ≤ CB
  r3 : RowOK χ χ.F oct ao3 c3
  l4 : l4 ≤ c4 ∧ l4 ≤ LB ∧ c4 ≤ CB
  r4 : RowOK χ χ.F treeC ao4 c4

def treeV (vc vt : Int) (vb : Bool) (ao3 : Option Addr) (l3 c3 : Nat) (ao4 : Option Addr) (l4 c4 : Nat) : Array Value := #[.int .u8 vc, .int .u32 vt, .bool vb, .slice ao3 l3 c3, .slice ao4 l4 c4]

theorem TreeF.ext {χ χ' : Chi} {vc vt : Int} {vb : Bool} {ao3 : Option Addr} {l3 c3 : Nat} {ao4 : Option Addr} {l4 c4 : Nat} (h : TreeF χ vc vt vb ao3 l3 c3 ao4 l4 c4) (hF : ∀ b, χ.F b → χ.A b) (hx : Ext 0 χ χ') : TreeF χ' vc vt vb ao3 l3 c3 ao4 l4 c4 :=
  ⟨h.c0, h.t0, h.l3, h.r3.ext hx hx.F hF, h.l4, h.r4.ext hx hx.F hF⟩

def apρ (l c b : Nat) (vc vt : Int) (vb : Bool) (l3 c3 l4 c4 : Nat) : Val := fun n =>
  if n = 0 then (l : Int) else if n = 1 then (c : Int) else if n = 2 then (b : Int) else if n = 3 then vc else if n = 4 then vt else if n = 5 then (if vb then 1 else 0) else if n = 6 then (l3 : Int) else if n = 7 then (c3 : Int) else if n = 8 then (l4 : Int) else (c4 : Int)

def apS : AS := { tm := [.pv (.one (.slice true (.base 61) (.v 0) (.v 1))), .pv (.one (.sslice 2 1))], hp := [{ b := 2, E := 61, cells := [.int .u8 (.v 3), .int .u32 (.v 4), .bool (.eq (.v 5) (.c 1)), .slice true (.base 5) (.v 6) (.v 7), .slice true (.base 61) (.v 8) (.v 9)] }], fs := [.le (.v 0) (.v 1), .le (.v 6) (.v 7), .le (.v 8) (.v 9)], iv := [some (0, 100000), some (0, 9223372036854775807), none, some (0, 255), some (0, 4294967295), some (0, 1), some (0, 1099511627776), some (0, 9223372036854775807), some (0, 1099511627776), some (0, 9223372036854775807)] }

theorem apS_app : absAppend Tryz.prog apS #[59, 59] (.tmp 0) (.tmp 1) = some { av := .pv (.one (.slice true (.base 61) (.add (.v 0) (.c 1)) (.v 10))), ivs := [some (0, 9223372036854775807)], fs := [.le (.add (.v 0) (.c 1)) (.v 10)], vcs := [] } := by kernel_rfl

set_option maxRecDepth 100000 in
theorem append_tree {χ : Chi} {w : World} (hinv : Inv Tryz.prog χ w) {ao : Option Addr} {l c : Nat} (h1 : l ≤ 100000) (h2 : l ≤ c) (h3 : c ≤ CB) (hrow : RowOK χ χ.F treeC ao c)
    {vc vt : Int} {vb : Bool} {ao3 : Option Addr} {l3 c3 : Nat} {ao4 : Option Addr} {l4 c4 : Nat} (ht : TreeF χ vc vt vb ao3 l3 c3 ao4 l4 c4) (ty : TypeId) :
    ∃ ao' c' χ' w', (Builtin.append_ #[59, 59] ty #[.slice ao l c, .slice (some ⟨w.heap.size, 0, none⟩) 1 1]).run Tryz.prog (w.alloc (.cells (treeV vc vt vb ao3 l3 c3 ao4 l4 c4) 61)) = .ok (.slice ao' (l + 1) c') w' ∧
      Ext 0 χ χ' ∧ MemExt χ w χ' w' ∧ Inv Tryz.prog χ' w' ∧ l + 1 ≤ c' ∧ c' ≤ CB ∧ RowOK χ' χ'.F treeC ao' c' := by
  have h3' := h3
  have e31 := ht.l3.1
  have e32 := ht.l3.2.1
  have e33 := ht.l3.2.2
  have e41 := ht.l4.1
  have e42 := ht.l4.2.1
  have e43 := ht.l4.2.2
  have c01 := ht.c0
  have t01 := ht.t0
  unfold CB at h3' e33 e43
  unfold LB at e32 e42
  have hb : (w.alloc (.cells (treeV vc vt vb ao3 l3 c3 ao4 l4 c4) 61)).heap[w.heap.size]? = some (.cells (treeV vc vt vb ao3 l3 c3 ao4 l4 c4) 61 (0, 0)) := by rw [alloc_get, if_pos rfl]
  have hnA : ¬ χ.A w.heap.size := fun h => by have := hinv.lt h; omega
  let χ1 : Chi := χ.withρ (apρ l c w.heap.size vc vt vb l3 c3 l4 c4)
  have hg : gS ⟨Tryz.prog, χ1, w⟩ apS χ1 { tmps := #[.slice ao l c, .slice (some ⟨w.heap.size, 0, none⟩) 1 1], defers := [] } (w.alloc (.cells (treeV vc vt vb ao3 l3 c3 ao4 l4 c4) 61)) := by
    refine { inv := (hinv.withρ _).allocPlain _, mem := MemExt.allocPlain _ _ _, wf := ⟨?_, ?_, ?_⟩, defers := rfl, size := rfl, tm := ?_, hp := ?_, dist := ?_, fs := ?_, iv := ?_, gl := fun _ h => nomatch h }
    · intro x hx; simp only [apS, List.mem_cons, List.not_mem_nil, or_false] at hx; rcases hx with rfl | rfl <;> decide
    · intro x hx; simp only [apS, List.mem_cons, List.not_mem_nil, or_false] at hx; subst hx; decide
    · intro x hx; simp only [apS, List.mem_cons, List.not_mem_nil, or_false] at hx; rcases hx with rfl | rfl | rfl <;> decide
    · intro i av hi
      match i, hi with
      | 0, hi =>
        cases hi
        refine ⟨ao, l, c, rfl, ?_, ?_, h2, h3, ?_⟩
        · simp [T.ev, χ1, Chi.withρ, apρ]
        · simp [T.ev, χ1, Chi.withρ, apρ]
        · simp only [SE.ev, tauT]; exact hrow
      | 1, hi =>
        cases hi
        show Value.slice (some ⟨w.heap.size, 0, none⟩) 1 1 = Value.slice (some ⟨(χ1.ρ 2).toNat, 0, none⟩) 1 1
        simp [χ1, Chi.withρ, apρ]
    · intro e he
      simp only [apS, List.mem_cons, List.not_mem_nil, or_false] at he
      subst he
      have e2 : (χ1.ρ 2).toNat = w.heap.size := by simp [χ1, Chi.withρ, apρ]
      refine ⟨by rw [e2]; exact Nat.le_refl _, by rw [e2]; exact hnA, _, by rw [e2]; exact hb, ?_, ?_⟩
      · refine ⟨?_, ?_, ?_, ?_, ?_, trivial⟩
        · simp [gSV, T.ev, χ1, Chi.withρ, apρ]
        · simp [gSV, T.ev, χ1, Chi.withρ, apρ]
        · cases vb <;> simp [gSV, Fm.b, T.ev, χ1, Chi.withρ, apρ]
        · refine ⟨ao3, l3, c3, rfl, ?_, ?_, ht.l3.1, ht.l3.2.2, ?_⟩
          · simp [T.ev, χ1, Chi.withρ, apρ]
          · simp [T.ev, χ1, Chi.withρ, apρ]
          · simp only [SE.ev, tauO]; exact ht.r3
        · refine ⟨ao4, l4, c4, rfl, ?_, ?_, ht.l4.1, ht.l4.2.2, ?_⟩
          · simp [T.ev, χ1, Chi.withρ, apρ]
          · simp [T.ev, χ1, Chi.withρ, apρ]
          · simp only [SE.ev, tauT]; exact ht.r4
      · intro x hx
        simp only [treeV, List.mem_cons, List.not_mem_nil, or_false] at hx
        rcases hx with rfl | rfl | rfl | rfl | rfl <;> rfl
    · exact List.pairwise_singleton _ _
    · refine ⟨?_, ?_, ?_, trivial⟩ <;> simp [Fm.holds, T.ev, χ1, Chi.withρ, apρ] <;> omega
    · simp only [apS, ivOK, χ1, Chi.withρ, apρ]
      simp
      refine ⟨by omega, by omega, by omega, by omega, ?_, by omega, by omega, by omega, by omega⟩
      cases vb <;> simp
  obtain ⟨v, w', χ2, hrun, hst⟩ := absAppend_ok apS_app hg (fun _ h => nomatch h) ty
  obtain ⟨ao', l', c', rfl, p1, p2, p3, p4, p5⟩ := hst.val
  have hl0 : χ2.ρ 0 = (l : Int) := by
    have := hst.ext.ρ 0 (by decide)
    rw [this]; simp [χ1, Chi.withρ, apρ]
  simp only [T.ev, hl0] at p1
  simp only [SE.ev, tauT] at p5
  obtain rfl : l' = l + 1 := by omega
  refine ⟨ao', c', χ2, w', hrun, ⟨fun i hi => absurd hi (Nat.not_lt_zero i), hst.ext.F, hst.ext.A, hst.ext.κ⟩, ?_, hst.inv, p3, p4, p5⟩
  have hm := (MemExt.allocPlain χ1 w (.cells (treeV vc vt vb ao3 l3 c3 ao4 l4 c4) 61)).trans hst.mem
  exact ⟨hm.os, hm.tape, hm.output, hm.size, hm.old, hm.Fn, hm.An⟩

theorem step_call {P : Program} {ops : Array Oper} {o : Oper} {a : Act} {w : World} {K : Act → World → Prop} {Q : Exit → Act → World → Prop} {E : Prop} (hg : o.guard = none) (f : FuncId) (xs : Array Operand) (ts : Array TypeId)
    (hop : o.op = .call { callee := .value (.func f), args := xs, argTypes := ts }) {fn : Func} {body : Code} (hfn : P.funcs[f]? = some fn) (hb : fn.body = some body) (hname : (fn.name == "runtime.NumGoroutine") = false)
    {R : Ending → World → Prop} (hc : Calls P f (xs.map a.eval) w R) (hR : ∀ e w', R e w' → (∃ v, e = .returned v ∧ K (a.put o.dst v) w') ∨ (∃ c, e = .panicked c ∧ Q (.panic c) a w')) :
    if Region.wanted o (yielded ops a.tmps) = true then Oper.wp P o a w K Q else E := by
  have hw : Region.wanted o (yielded ops a.tmps) = true := by simp [Region.wanted, hg]
  rw [if_pos hw]
  have hrun := run_callF (P := P) (a := a) (w := w) (o := o) (c := { callee := .value (.func f), args := xs, argTypes := ts }) (f := .func f) (fid := f) (vs := #[]) hop rfl rfl hfn hb hname
  unfold Oper.wp
  rw [hrun]
  simp only [Array.append_empty]
  refine hc.mono ?_
  intro e w' h
  rcases hR e w' h with ⟨v, rfl, h1⟩ | ⟨c, rfl, h1⟩
  · exact h1
  · exact h1

theorem step_call2 {P : Program} {ops : Array Oper} {o : Oper} {a : Act} {w : World} {K : Act → World → Prop} {Q : Exit → Act → World → Prop} {E : Prop} (hg : o.guard = none) (f : FuncId) (x y : Operand) (ts : Array TypeId)
    (hop : o.op = .call { callee := .value (.func f), args := #[x, y], argTypes := ts }) (hcal : callable P f = true) {vx vy : Value} (hx : a.eval x = vx) (hy : a.eval y = vy)
    {R : Ending → World → Prop} (hc : Calls P f #[vx, vy] w R) (hR : ∀ e w', R e w' → (∃ v, e = .returned v ∧ K (a.put o.dst v) w') ∨ (∃ c, e = .panicked c ∧ Q (.panic c) a w')) :
    if Region.wanted o (yielded ops a.tmps) = true then Oper.wp P o a w K Q else E := by
  obtain ⟨fn, hh, hb, hname⟩ := callable_ok hcal
  obtain ⟨body, hb⟩ := Option.isSome_iff_exists.1 hb
  refine step_call hg f #[x, y] ts hop hh hb hname ?_ hR
  rw [show (#[x, y] : Array Operand).map a.eval = #[vx, vy] by simp [hx, hy]]
  exact hc

theorem step_append_run {P : Program} {ops : Array Oper} {o : Oper} {a : Act} {w : World} {K : Act → World → Prop} {Q : Exit → Act → World → Prop} {E : Prop} (hg : o.guard = none) (s x : Operand) (t t2 : TypeId)
    (hop : o.op = .call { callee := .builtin .append, args := #[s, x], argTypes := #[t, t2] }) {vs vx v : Value} {w' : World} (hs : a.eval s = vs) (hx : a.eval x = vx)
    (hrun : (Builtin.append_ #[t, t2] o.type #[vs, vx]).run P w = .ok v w') (hK : K (a.put o.dst v) w') :
    if Region.wanted o (yielded ops a.tmps) = true then Oper.wp P o a w K Q else E := by
  have hw : Region.wanted o (yielded ops a.tmps) = true := by simp [Region.wanted, hg]
  rw [if_pos hw]
  have hr := run_call_builtin (P := P) (a := a) (w := w) (w' := w') (o := o) (b := .append) (v := v) hop rfl (s := Builtin.append_ #[t, t2] o.type #[vs, vx]) (fun consts => by simp [hs, hx]; rfl) hrun
  unfold Oper.wp
  rw [hr]
  exact hK

end Go.Sx

namespace Go.Sx
open Go Go.Proofs

noncomputable def cTclone : Contract := conOfX Tryz.prog 1000000 1000000 [] [] [] [(.eq (.v 2) (.v 0))] ((Tryz.prog.funcs[169]?).getD default)
noncomputable def cTclip : Contract := conOfX Tryz.prog 20000000000000 20000000000000 [0] [] [] [(.eq (.v 2) (.v 0))] ((Tryz.prog.funcs[94]?).getD default)
theorem fnTclone : FnOK Tryz.prog 169 cTclone := checkFn_ok (env := ({ P := Tryz.prog } : Env)) (fun _ _ h => nomatch h) (fuel := 200) (vcs := [⟨[(.le (.v 0) (.v 1)), (.or (.eq (.v 2) (.c (0))) (.eq (.v 0) (.c (0)))), (.eq (.v 2) (.c (1))), (.le (.c (0)) (.v 0)), (.le (.v 0) (.c (1000000))), (.le (.c (0)) (.v 1)), (.le (.v 1) (.c (9223372036854775807))), (.le (.c (1)) (.v 2)), (.le (.v 2) (.c (1)))], (.eq (.c (0)) (.v 0))⟩]) (by kernel_rfl)
    (valids_cons (by intro ρ h; first | (simp only [holdsAll, Fm.holds, T.ev] at h ⊢; omega) | (simp [holdsAll, Fm.holds, T.ev] at h ⊢; done) | (simp [holdsAll, Fm.holds, T.ev] at h ⊢; omega))
    (valids_nil))

theorem tau5' : tau Tryz.prog (.base 5) = oct := by kernel_rfl

def OctsPost (χ : Chi) (w : World) (l : Nat) (e : Ending) (w' : World) : Prop :=
  ∃ ao' c' χ', e = .returned (.slice ao' l c') ∧ Ext 0 χ χ' ∧ MemExt χ w χ' w' ∧ Inv Tryz.prog χ' w' ∧ l ≤ c' ∧ c' ≤ CB ∧ RowOK χ' χ'.F oct ao' c'

set_option maxRecDepth 100000 in
theorem bclone_call {χ : Chi} {w : World} {ao : Option Addr} {l c : Nat} (hinv : Inv Tryz.prog χ w) (h1 : l ≤ 1000000) (h2 : l ≤ c) (h3 : c ≤ CB) (hr : RowOK χ χ.A oct ao c) :
    Calls Tryz.prog 169 #[.slice ao l c] w (OctsPost χ w l) := by
  have e1 : cTclone.iv = [some (0, 1000000), some (0, 9223372036854775807)] := by kernel_rfl
  have e2 : cTclone.params = [.pv (.one (.slice false (.base 5) (.v 0) (.v 1)))] := by kernel_rfl
  have e3 : cTclone.pre = [.le (.v 0) (.v 1)] := by kernel_rfl
  have e5 : cTclone.res = .pv (.one (.slice true (.base 5) (.v 2) (.v 3))) := by kernel_rfl
  have e6 : cTclone.gl = [] := by kernel_rfl
  have e7 : cTclone.nv = 2 := by simp [Contract.nv, e1]
  have e8 : cTclone.post = [.le (.v 2) (.v 3), .eq (.v 2) (.v 0)] := by kernel_rfl
  have h3' := h3
  unfold CB at h3'
  have hi : ivOK (χ.withρ (fun i => if i = 0 then (l : Int) else (c : Int))).ρ 0 cTclone.iv := by
    rw [e1]
    refine ⟨?_, ?_, trivial⟩
    · show (0 : Int) ≤ (if (0 : Nat) = 0 then (l : Int) else c) ∧ (if (0 : Nat) = 0 then (l : Int) else c) ≤ 1000000
      simp; omega
    · show (0 : Int) ≤ (if (1 : Nat) = 0 then (l : Int) else c) ∧ (if (1 : Nat) = 0 then (l : Int) else c) ≤ 9223372036854775807
      simp; omega
  refine (fnTclone (χ.withρ (fun i => if i = 0 then (l : Int) else (c : Int))) w #[.slice ao l c] (hinv.withρ _) ?_ hi ?_ (by rw [e6]; exact fun _ h => nomatch h)).mono ?_
  · rw [e2]
    refine ⟨⟨ao, l, c, rfl, by simp [T.ev, Chi.withρ], by simp [T.ev, Chi.withρ], h2, h3, ?_⟩, trivial⟩
    simp only [SE.ev, tau5']
    exact hr
  · rw [e3]
    exact ⟨by simp [Fm.holds, T.ev, Chi.withρ]; omega, trivial⟩
  · rintro e w' ⟨v, χ', rfl, hx, hm, hi', hv, _, hp⟩
    rw [e5] at hv
    rw [e8] at hp
    rw [e7] at hx
    obtain ⟨ao', l', c', rfl, p1, p2, p3, p4, p5⟩ := hv
    simp only [SE.ev, tau5'] at p5
    obtain ⟨_, q2, _⟩ := hp
    simp only [Fm.holds, T.ev] at q2
    have q3 := hx.ρ 0 (by omega)
    simp only [Chi.withρ, if_pos] at q3
    simp only [T.ev] at p1
    obtain rfl : l' = l := by omega
    exact ⟨ao', c', χ', rfl, ⟨fun i hi => absurd hi (Nat.not_lt_zero i), hx.F, hx.A, hx.κ⟩, ⟨hm.os, hm.tape, hm.output, hm.size, hm.old, hm.Fn, hm.An⟩, hi', p3, p4, p5⟩

noncomputable def cTtclip : Contract := conOfX Tryz.prog 20000000000000 20000000000000 [0] [] [] [(.eq (.v 2) (.v 0))] ((Tryz.prog.funcs[156]?).getD default)
def TreesPost (χ : Chi) (w : World) (l : Nat) (e : Ending) (w' : World) : Prop :=
  ∃ ao' c' χ', e = .returned (.slice ao' l c') ∧ Ext 0 χ χ' ∧ MemExt χ w χ' w' ∧ Inv Tryz.prog χ' w' ∧ l ≤ c' ∧ c' ≤ CB ∧ RowOK χ' χ'.F treeC ao' c'

end Go.Sx
