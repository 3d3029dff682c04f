/- Part G of a proof: helper lemmas; no conditions. -/
import Derived.Test.YtnnaehcmchndmaaGreatDoorF
import Derived.Orders
import Derived.Deep.LoopGhost
import Derived.Scope

set_option linter.unusedSimpArgs false
set_option linter.unusedVariables false

namespace Go.Sx
open Go

def Ex.is : Ex → Exit → Prop
  | .nrm, .normal => True
  | .ext i, .exit j => i = j
  | .ret, .ret => True
  | _, _ => False

def Post (X : Ctx) (outs : List (Ex × AS)) (n : Nat) (χ : Chi) : Exit → Act → World → Prop :=
  fun e a w => ∃ o ∈ outs, o.1.is e ∧ n ≤ o.2.nv ∧ ∃ χ', Ext n χ χ' ∧ gS X o.2 χ' a w

def PostS (X : Ctx) (ss : List AS) (n : Nat) (χ : Chi) : Act → World → Prop :=
  fun a w => ∃ s ∈ ss, n ≤ s.nv ∧ ∃ χ', Ext n χ χ' ∧ gS X s χ' a w

def ExOK (env : Env) (ex : Nat → Nat → Code → AS → Res) : Prop :=
  ∀ fid bid c s outs vcs, ex fid bid c s = some (outs, vcs) → ∀ X : Ctx, X.P = env.P → (∀ y ∈ vcs, y.valid) → ∀ χ a w, gS X s χ a w → c.wp X.P (Post X outs s.nv χ) a w

def ConOK (env : Env) : Prop := ∀ f c, env.getCon f = some c → FnOK env.P f c

theorem gS.putTop {X : Ctx} {s : AS} {χ : Chi} {a : Act} {w : World} (hg : gS X s χ a w) (dst : Option Tmp) (v : Value) : gS X (s.put dst topOR) χ (a.put dst v) w :=
  hg.put X (r := topOR) (Step.pure hg trivial) (by simpa [topOR] using topOR_ok s.nv) dst

theorem gS.putUd {X : Ctx} {s : AS} {χ : Chi} {a : Act} {w : World} (hg : gS X s χ a w) (dst : Option Tmp) : gS X (s.put dst udR) χ (a.put dst undef) w :=
  hg.put X (r := udR) (Step.pure hg ⟨#[], rfl, trivial⟩) (by simp [OR.okb, udR, AV.top']) dst

theorem Oper.wp_val {P : Program} {o : Oper} {a : Act} {w w' : World} {next : Act → World → Prop} {Q : Exit → Act → World → Prop} {v : Value} (h : (execOp a.eval o).run P w = .ok (.value v) w') (hn : next (a.put o.dst v) w') : o.wp P a w next Q := by
  unfold Oper.wp; rw [h]; exact hn

theorem Oper.wp_skip {P : Program} {o : Oper} {a : Act} {w w' : World} {next : Act → World → Prop} {Q : Exit → Act → World → Prop} (h : (execOp a.eval o).run P w = .ok .skip w') (hn : next (a.put o.dst undef) w') : o.wp P a w next Q := by
  unfold Oper.wp; rw [h]; exact hn

theorem Oper.wp_enter {P : Program} {o : Oper} {a : Act} {w w' : World} {next : Act → World → Prop} {Q : Exit → Act → World → Prop} {f : FuncId} {args : Array Value} (h : (execOp a.eval o).run P w = .ok (.enter f args) w')
    (hn : Calls P f args w' fun e w'' => ∃ v, e = .returned v ∧ next (a.put o.dst v) w'') : o.wp P a w next Q := by
  unfold Oper.wp; rw [h]
  refine hn.mono ?_
  rintro e w'' ⟨v, rfl, hv⟩
  exact hv

theorem absVal'_ok {env : Env} {s : AS} {o : Oper} {r : OR} {X : Ctx} (hX : X.P = env.P) (h : absVal' env s o.op = some r) : VOK X s o r := by
  unfold absVal' at h
  split at h
  · rename_i E ho
    cases hw : env.wa with
    | false => rw [hw, cond_false, ← hX] at h; exact absVal_ok h
    | true => rw [hw, cond_true, ← hX] at h; exact absAllocW_ok ho h
  · rw [← hX] at h; exact absVal_ok h

theorem valOp_ok {env : Env} {s : AS} {o : Oper} {ss : List AS} {vcs : List VC} (h : valOp env s o = some (ss, vcs)) {X : Ctx} (hX : X.P = env.P) (hv : ∀ y ∈ vcs, y.valid) {χ : Chi} {a : Act} {w : World} (hg : gS X s χ a w)
    {next : Act → World → Prop} {Q : Exit → Act → World → Prop} (hn : ∀ a' w', PostS X ss s.nv χ a' w' → next a' w') : o.wp X.P a w next Q := by
  unfold valOp at h
  split at h
  rotate_left
  · cases h
  rename_i r hr
  cases hb : r.okb (s.nv + r.ivs.length) with
  | false => rw [hb] at h; cases h
  | true =>
    rw [hb] at h
    simp only [cond_true, Option.some.injEq, Prod.mk.injEq] at h
    obtain ⟨rfl, rfl⟩ := h
    obtain ⟨v, w', χ', hrun, hs⟩ := absVal'_ok hX hr χ a w hg hv
    exact Oper.wp_val hrun (hn _ _ ⟨_, by simp, by rw [put_nv]; omega, χ', hs.ext, hg.put X hs hb o.dst⟩)

theorem run_callF {P : Program} {a : Act} {w : World} {o : Oper} {c : Call} {f : Operand} {fid : FuncId} {vs : Array Value} {fn : Func} {body : Code} (ho : o.op = .call c) (hc : c.callee = .value f)
    (hf : a.eval f = .func (.func fid) #[] vs) (hfn : P.funcs[fid]? = some fn) (hb : fn.body = some body) (hname : (fn.name == "runtime.NumGoroutine") = false) :
    (execOp a.eval o).run P w = .ok (.enter fid (c.args.map a.eval ++ vs)) w := by
  simp only [execOp, ho]
  rw [Sem.run_bind]
  have : (resolve a.eval c o.type).run P w = .ok { target := .fn (.func fid) vs, args := #[] ++ c.args.map a.eval } w := by
    unfold resolve
    rw [hc]
    simp only [hf, Deferred.ofValue]
    rfl
  rw [this]
  simp only [Result.andThen_ok, invoke, callFunc, Sem.run_bind, run_program, hfn, hname, hb, Option.isNone_some, Bool.false_eq_true, if_false, Sem.run_pure, Array.empty_append]

theorem capsOK_all2 {P : Program} {χ : Chi} : ∀ {caps : List Cap} {vs : List Value}, All2 (capOK χ) caps vs → All2 (gAV P χ) (caps.map fun c => AV.pv (.one c.sv)) vs := by
  intro caps
  induction caps with
  | nil => intro vs h; cases vs with
    | nil => trivial
    | cons v vs => exact h
  | cons c caps ih => intro vs h; cases vs with
    | nil => exact h
    | cons v vs => exact ⟨by cases c <;> exact h.1, ih h.2⟩

theorem opds_ok {X : Ctx} {s : AS} {χ : Chi} {a : Act} {w : World} (hg : gS X s χ a w) : ∀ l : List Operand, All2 (gAV X.P χ) (l.map s.opd) (l.map a.eval) := by
  intro l
  induction l with
  | nil => trivial
  | cons x l ih => exact ⟨s.opd_ok hg x, ih⟩

theorem absCell_ok {X : Ctx} {s : AS} {χ : Chi} {a : Act} {w : World} (hg : gS X s χ a w) {c : Tmp} {t : TypeId} {p : PV} (h : absCell X.P s c t = some p) :
    ∃ v, (do loadVar t (← asAddr (a.tmps.getD c undef)) : Sem Value).run X.P w = .ok v w ∧ gPV X.P χ p v := by
  have hx := s.osv_ok hg (.tmp c)
  unfold absCell at h
  split at h
  rotate_left
  · cases h
  rename_i agg sz b off hagg hsz e
  rw [e] at hx
  simp only [gSV] at hx
  have hx : a.tmps.getD c undef = .pointer (some ⟨(χ.ρ b).toNat, off, none⟩) := hx
  split at h
  rotate_left
  · cases h
  rename_i he hfind
  cases hn : Nat.ble (off + bif agg then sz else 1) he.cells.length with
  | false => simp [hn] at h
  | true =>
    simp only [hn, cond_true] at h
    obtain ⟨cs, hl, h2, h1, h3⟩ := load_strong hg hfind (by simpa using hn)
    rw [hx]
    cases agg with
    | true =>
      simp only [cond_true] at hl h h2
      exact ⟨.agg cs, by simp [asAddr, loadVar, run_aggOf hagg, run_sizeAt hsz, hl], mkPV_ok h h2 h1 (by simp)⟩
    | false =>
      simp only [cond_false] at hl h h2
      obtain ⟨v, hl1, hcs⟩ := h3 rfl
      exact ⟨v, by simp only [asAddr, loadVar]; simp [run_aggOf hagg, hl1, -run_load], mkPV_ok h h2 h1 (by simp [hcs])⟩

def rdRes (tmps : Array Value) (r : ResultVar) : Sem Value :=
  match r with
  | .tmp t => pure (tmps.getD t undef)
  | .cell c t => do loadVar t (← asAddr (tmps.getD c undef))

theorem absRes_ok {X : Ctx} {s : AS} {χ : Chi} {a : Act} {w : World} (hg : gS X s χ a w) : ∀ {l : List ResultVar} {ps : List PV}, absRes X.P s l = some ps →
    ∃ vs : List Value, (l.mapM (rdRes a.tmps)).run X.P w = .ok vs w ∧ All2 (gPV X.P χ) ps vs := by
  intro l
  induction l with
  | nil => intro ps h; simp only [absRes, Option.some.injEq] at h; subst h; exact ⟨[], rfl, trivial⟩
  | cons x l ih =>
    intro ps h
    cases x with
    | tmp t =>
      simp only [absRes] at h
      split at h
      · rename_i p r hp hr
        cases h
        obtain ⟨vs, h1, h2⟩ := ih hr
        have := s.opd_ok hg (.tmp t)
        rw [hp] at this
        refine ⟨a.tmps.getD t undef :: vs, ?_, this, h2⟩
        simp only [List.mapM_cons, rdRes, Sem.run_bind, Sem.run_pure, Result.andThen_ok, h1]
      · cases h
    | cell c t =>
      simp only [absRes] at h
      split at h
      · rename_i p r hp hr
        cases h
        obtain ⟨vs, h1, h2⟩ := ih hr
        obtain ⟨v, h3, h4⟩ := absCell_ok hg hp
        refine ⟨v :: vs, ?_, h4, h2⟩
        rw [List.mapM_cons, Sem.run_bind]
        rw [show (rdRes a.tmps (.cell c t)) = (do loadVar t (← asAddr (a.tmps.getD c undef))) from rfl, h3]
        simp only [Result.andThen_ok, Sem.run_bind, Sem.run_pure, h1]
      · cases h

def val1 : List Value → Value
  | [v] => v
  | vs => .tuple vs.toArray

theorem results_run {P : Program} {fn : Func} {tmps : Array Value} {w : World} {vs : List Value} (h : (fn.results.toList.mapM (rdRes tmps)).run P w = .ok vs w) :
    (results fn tmps).run P w = .ok (val1 vs) w := by
  have e : results fn tmps = (do let vs ← fn.results.mapM (rdRes tmps); pure (if h : vs.size = 1 then vs[0] else .tuple vs)) := rfl
  rw [e, Array.mapM_eq_mapM_toList]
  simp only [Sem.run_bind, bind_map_left, h, Result.andThen_ok, Sem.run_pure]
  congr 1
  rcases vs with _ | ⟨v, _ | ⟨v2, vs⟩⟩
  · rfl
  · rfl
  · rfl

theorem resAV_ok {P : Program} {χ : Chi} {ps : List PV} {vs : List Value} (h : All2 (gPV P χ) ps vs) : gAV P χ (resAV ps) (val1 vs) := by
  rcases ps with _ | ⟨p, _ | ⟨p2, ps⟩⟩ <;> rcases vs with _ | ⟨v, _ | ⟨v2, vs⟩⟩
  · exact ⟨#[], rfl, trivial⟩
  · exact h.elim
  · exact h.elim
  · exact h.elim
  · exact h.1
  · exact h.2.elim
  · exact h.elim
  · exact h.2.elim
  · exact ⟨_, rfl, by simpa using h⟩

theorem gS.swapTm {X : Ctx} {s st : AS} {χ χ' : Chi} {a a' : Act} {w w' : World} (hg : gS X s χ a w) (h' : gS X st χ' a' w') (hext : Ext s.nv χ χ') (hn : s.nv ≤ st.nv) : gS X { st with tm := s.tm } χ' a w' where
  inv := h'.inv
  mem := h'.mem
  wf := ⟨fun x hx => Nat.le_trans (hg.wf.tm x hx) hn, h'.wf.hp, h'.wf.fs⟩
  defers := hg.defers
  size := hg.size
  tm := fun i av hi => gAV.ext hext hg.inv.sub (hg.wf.tm av (List.mem_of_getElem? hi)) (hg.tm i av hi)
  hp := h'.hp
  dist := h'.dist
  fs := h'.fs
  iv := h'.iv
  gl := h'.gl

theorem all2_get {α β : Type} {R : α → β → Prop} : ∀ {l : List α} {m : List β}, All2 R l m → ∀ {i : Nat} {x : α}, l[i]? = some x → ∃ y, m[i]? = some y ∧ R x y := by
  intro l
  induction l with
  | nil => intro m _ i x h; simp at h
  | cons a l ih =>
    intro m h i x hi
    cases m with
    | nil => exact h.elim
    | cons b m =>
      cases i with
      | zero => simp at hi; subst hi; exact ⟨b, by simp, h.1⟩
      | succ i => simp at hi; obtain ⟨y, hy, hr⟩ := ih h.2 hi; exact ⟨y, by simpa using hy, hr⟩

theorem gS.enter {X : Ctx} {s : AS} {χ : Chi} {a : Act} {w : World} (hg : gS X s χ a w) {avs : List AV} {vs : Array Value} (h2 : All2 (gAV X.P χ) avs vs.toList) (ht : ∀ x ∈ avs, x.top' ≤ s.nv) (n : Nat) :
    gS X { s with tm := avs ++ List.replicate (n - avs.length) (.pv (.one .top)) } χ { tmps := vs ++ Array.replicate (n - vs.size) undef, defers := [] } w := by
  have hlen : avs.length = vs.size := by simpa using h2.length
  refine { inv := hg.inv, mem := hg.mem, wf := ⟨?_, hg.wf.hp, hg.wf.fs⟩, defers := rfl, size := by simp [hlen], tm := ?_, hp := hg.hp, dist := hg.dist, fs := hg.fs, iv := hg.iv, gl := hg.gl }
  · intro x hx
    simp only [List.mem_append, List.mem_replicate] at hx
    rcases hx with h | ⟨_, rfl⟩
    · exact ht x h
    · exact Nat.zero_le _
  · intro i av hi
    simp only [List.getElem?_append] at hi
    by_cases hlt : i < avs.length
    · rw [if_pos hlt] at hi
      obtain ⟨y, hy, hr⟩ := all2_get h2 hi
      have : (vs ++ Array.replicate (n - vs.size) undef).getD i undef = y := by
        rw [Array.getD_eq_getD_getElem?, Array.getElem?_append_left (by omega), ← Array.getElem?_toList, hy]; rfl
      rw [this]; exact hr
    · rw [if_neg hlt] at hi
      have := List.eq_of_mem_replicate (List.mem_of_getElem? hi)
      subst this
      exact trivial

theorem retOuts_mem {P : Program} {fn : Func} {s : AS} {dst : Option Tmp} : ∀ {outs : List (Ex × AS)} {ss : List AS}, retOuts P fn s dst outs = some ss → ∀ o ∈ outs, (∀ i, o.1 ≠ .ext i) ∧ ∃ ps, absRes P o.2 fn.results.toList = some ps ∧
    ({ av := resAV ps } : OR).okb o.2.nv = true ∧ (({ o.2 with tm := s.tm } : AS).put dst { av := resAV ps }) ∈ ss := by
  intro outs
  induction outs with
  | nil => intro ss _ o ho; cases ho
  | cons x l ih =>
    intro ss h o ho
    obtain ⟨e, st⟩ := x
    simp only [retOuts] at h
    split at h
    · cases h
    · rename_i ps r hne hps hr
      cases hb : ({ av := resAV ps } : OR).okb st.nv with
      | false => rw [hb] at h; cases h
      | true =>
        rw [hb] at h
        simp only [cond_true, Option.some.injEq] at h
        subst h
        rcases List.mem_cons.1 ho with rfl | ho
        · exact ⟨fun i hi => hne i hi, ps, hps, hb, by simp⟩
        · obtain ⟨k1, ps', k2, k3, k4⟩ := ih hr o ho
          exact ⟨k1, ps', k2, k3, by simp [k4]⟩
    · cases h

theorem retPost {X : Ctx} {fn : Func} {s : AS} {dst : Option Tmp} {outs : List (Ex × AS)} {ss : List AS} (h : retOuts X.P fn s dst outs = some ss) {χ : Chi} {a : Act} {w : World} (hg : gS X s χ a w) :
    ∀ e a' w', Post X outs s.nv χ e a' w' → bodyPost X.P fn (fun e w' => ∃ v, e = .returned v ∧ PostS X ss s.nv χ (a.put dst v) w') e a' w' := by
  rintro e a' w' ⟨o, ho, hex, hn, χ', hext, hg'⟩
  obtain ⟨k1, ps, k2, k3, k4⟩ := retOuts_mem h o ho
  obtain ⟨vs, hvs, h2⟩ := absRes_ok hg' k2
  have hr := results_run hvs
  have fin : a'.defers = [] ∧ ∃ v, (results fn a'.tmps).run X.P w' = .ok v w' ∧ ∃ v', Ending.returned v = .returned v' ∧ PostS X ss s.nv χ (a.put dst v') w' := by
    refine ⟨hg'.defers, _, hr, _, rfl, _, k4, by rw [put_nv]; exact Nat.le_trans hn (Nat.le_add_right _ _), χ', hext, ?_⟩
    have hg2 := gS.swapTm hg hg' hext hn
    exact gS.put X hg2 (r := { av := resAV ps }) (Step.pure hg2 (resAV_ok h2)) k3 dst
  cases e with
  | normal => exact fin
  | ret => exact fin
  | exit id => cases ho1 : o.1 with
    | nrm => rw [ho1] at hex; exact hex.elim
    | ext i => exact absurd ho1 (k1 i)
    | ret => rw [ho1] at hex; exact hex.elim
  | goto l => cases ho1 : o.1 <;> rw [ho1] at hex <;> exact hex.elim
  | panic c => cases ho1 : o.1 <;> rw [ho1] at hex <;> exact hex.elim
  | outgrown => cases ho1 : o.1 <;> rw [ho1] at hex <;> exact hex.elim

theorem callOp_ok {env : Env} {ex : Nat → Nat → Code → AS → Res} (hex : ExOK env ex) (hcon : ConOK env) {s : AS} {o : Oper} {c : Call} {f : Operand} {ss : List AS} {vcs : List VC}
    (ho : o.op = .call c) (hc : c.callee = .value f) (h : callOp env ex s o f c.args.toList = some (ss, vcs)) {X : Ctx} (hX : X.P = env.P) (hv : ∀ y ∈ vcs, y.valid) {χ : Chi} {a : Act} {w : World} (hg : gS X s χ a w)
    {next : Act → World → Prop} {Q : Exit → Act → World → Prop} (hn : ∀ a' w', PostS X ss s.nv χ a' w' → next a' w') : o.wp X.P a w next Q := by
  unfold callOp at h
  split at h
  rotate_left
  · cases h
  rename_i fid caps hf
  split at h
  rotate_left
  · cases h
  rename_i fn hfn
  split at h
  rotate_left
  · cases h
  rename_i body hbody
  cases hname : (fn.name == "runtime.NumGoroutine") with
  | true => rw [hname] at h; cases h
  | false =>
  rw [hname] at h
  simp only [cond_false] at h
  have hx := s.osv_ok hg f
  rw [hf] at hx
  obtain ⟨vs, hfv, hcaps⟩ := hx
  have hrun := run_callF (P := X.P) (a := a) (w := w) ho hc hfv (by rw [hX]; exact hfn) hbody hname
  have h2 : All2 (gAV X.P χ) (c.args.toList.map s.opd ++ caps.map fun c => AV.pv (.one c.sv)) (c.args.map a.eval ++ vs).toList := by
    rw [Array.toList_append, Array.toList_map]
    exact all2_append (opds_ok hg _) (capsOK_all2 hcaps)
  split at h
  · rename_i con hcn
    split at h
    rotate_left
    · cases h
    rename_i r hr
    cases hb : r.okb (s.nv + r.ivs.length) with
    | false => rw [hb] at h; cases h
    | true =>
      rw [hb] at h
      simp only [cond_true, Option.some.injEq, Prod.mk.injEq] at h
      obtain ⟨rfl, rfl⟩ := h
      have := absCon_ok (X := X) (f := fid) (by rw [hX]; exact hcon _ _ hcn) hr hv hg h2
      refine Oper.wp_enter hrun (this.mono ?_)
      rintro e w' ⟨v, χ', rfl, hs⟩
      exact ⟨v, rfl, hn _ _ ⟨_, by simp, by rw [put_nv]; omega, χ', hs.ext, hg.put X hs hb o.dst⟩⟩
  · cases hin : (nmem fid env.inl && (c.args.toList.map s.opd ++ caps.map fun c => AV.pv (.one c.sv)).all (fun x => Nat.ble x.top' s.nv)) with
    | false => rw [hin] at h; cases h
    | true =>
      rw [hin] at h
      simp only [cond_true] at h
      simp only [Bool.and_eq_true, List.all_eq_true, Nat.ble_eq] at hin
      split at h
      rotate_left
      · cases h
      rename_i outs v hexr
      split at h
      rotate_left
      · cases h
      rename_i ss' hret
      cases h
      have hst := gS.enter hg h2 hin.2 fn.ntmps
      have hw := hex _ _ _ _ _ _ hexr X hX hv χ _ _ hst
      refine Oper.wp_enter hrun ((calls_of_wp (R := fun e w' => ∃ v, e = .returned v ∧ PostS X ss s.nv χ (a.put o.dst v) w') (by rw [hX]; exact hfn) hbody ?_).mono ?_)
      · exact wp_mono hw fun e a' w' hq => retPost (s := s) (by rw [hX]; exact hret) hg e a' w' hq
      · rintro e w' ⟨v, rfl, hp⟩
        exact ⟨v, rfl, hn _ _ hp⟩

theorem putStep {X : Ctx} {s : AS} {r : OR} {χ χ' : Chi} {a : Act} {w w' : World} {v : Value} (hg : gS X s χ a w) (hs : Step X s r χ w χ' w' v) (hb : r.okb (s.nv + r.ivs.length) = true) (dst : Option Tmp) :
    PostS X [s.put dst r] s.nv χ (a.put dst v) w' :=
  ⟨_, by simp, by rw [put_nv]; omega, χ', hs.ext, hg.put X hs hb dst⟩

theorem absStoreS_nv {P : Program} {s s' : AS} {t : TypeId} {addr x : Operand} (h : absStoreS P s t addr x = some s') : s'.nv = s.nv := by
  unfold absStoreS at h
  split at h
  rotate_left
  · cases h
  split at h
  rotate_left
  · cases h
  rename_i b off l sz _ _ _ _ e _
  cases hb : (Nat.beq l.length sz && Nat.ble (off + sz) e.cells.length && l.all (fun c => Nat.ble c.top' s.nv)) with
  | false => rw [hb] at h; cases h
  | true => rw [hb] at h; cases h; rfl

theorem op1_ok {env : Env} {ex : Nat → Nat → Code → AS → Res} (hex : ExOK env ex) (hcon : ConOK env) {s : AS} {o : Oper} {ss : List AS} {vcs : List VC}
    (h : op1 env ex s o = some (ss, vcs)) {X : Ctx} (hX : X.P = env.P) (hv : ∀ y ∈ vcs, y.valid) {χ : Chi} {a : Act} {w : World} (hg : gS X s χ a w)
    {next : Act → World → Prop} {Q : Exit → Act → World → Prop} (hn : ∀ a' w', PostS X ss s.nv χ a' w' → next a' w') : o.wp X.P a w next Q := by
  unfold op1 at h
  split at h
  · rename_i t addr x ho
    split at h
    · rename_i s' hs'
      cases h
      obtain ⟨w', hrun, hg', _⟩ := absStoreS_ok ho (by rw [hX]; exact hs') hg
      have hnv := absStoreS_nv hs'
      refine Oper.wp_skip hrun (hn _ _ ⟨_, by simp, by rw [put_nv]; omega, χ, Ext.refl _ _, hg'.putTop o.dst undef⟩)
    · split at h
      rotate_left
      · cases h
      rename_i r hr
      cases hb : r.okb (s.nv + r.ivs.length) with
      | false => rw [hb] at h; cases h
      | true =>
        rw [hb] at h
        simp only [cond_true, Option.some.injEq, Prod.mk.injEq] at h
        obtain ⟨rfl, rfl⟩ := h
        obtain ⟨w', χ', hrun, hs⟩ := absStoreW_ok ho (by rw [hX]; exact hr) χ a w hg hv
        exact Oper.wp_skip hrun (hn _ _ (putStep hg hs hb o.dst))
  · cases h
    exact absurd (AS.need_ok hg hv) (by simp [Fm.holds])
  · rename_i c ho
    split at h
    · rename_i f hc
      exact callOp_ok hex hcon ho hc h hX hv hg hn
    · exact valOp_ok h hX hv hg hn
  · exact valOp_ok h hX hv hg hn

theorem weakenL_ok {X : Ctx} : ∀ {l : List Nat} {s s' : AS} {vcs : List VC}, weakenL X.P l s = some (s', vcs) → (∀ y ∈ vcs, y.valid) → ∀ {χ : Chi} {a : Act} {w : World}, gS X s χ a w → ∃ χ', Ext s.nv χ χ' ∧ gS X s' χ' a w ∧ s'.nv = s.nv := by
  intro l
  induction l with
  | nil => intro s s' vcs h _ χ a w hg; cases h; exact ⟨χ, Ext.refl _ _, hg, rfl⟩
  | cons b l ih =>
    intro s s' vcs h hv χ a w hg
    simp only [weakenL] at h
    split at h
    · exact ih h hv hg
    · split at h
      rotate_left
      · cases h
      rename_i s1 v1 h1
      split at h
      rotate_left
      · cases h
      rename_i s2 v2 h2
      cases h
      obtain ⟨χ1, e1, g1, n1⟩ := weaken_ok h1 (fun y hy => hv y (by simp [hy])) hg
      obtain ⟨χ2, e2, g2, n2⟩ := ih h2 (fun y hy => hv y (by simp [hy])) g1
      exact ⟨χ2, e1.trans (n1 ▸ e2), g2, n2.trans n1⟩

theorem opW_ok {env : Env} {ex : Nat → Nat → Code → AS → Res} (hex : ExOK env ex) (hcon : ConOK env) {s : AS} {o : Oper} {ss : List AS} {vcs : List VC}
    (h : opW env ex s o = some (ss, vcs)) {X : Ctx} (hX : X.P = env.P) (hv : ∀ y ∈ vcs, y.valid) {χ : Chi} {a : Act} {w : World} (hg : gS X s χ a w)
    {next : Act → World → Prop} {Q : Exit → Act → World → Prop} (hn : ∀ a' w', PostS X ss s.nv χ a' w' → next a' w') : o.wp X.P a w next Q := by
  unfold opW at h
  split at h
  · rename_i r hr
    cases h
    exact op1_ok hex hcon hr hX hv hg hn
  · split at h
    rotate_left
    · cases h
    rename_i s' v h1
    split at h
    rotate_left
    · cases h
    rename_i ss2 v2 h2
    cases h
    obtain ⟨χ1, e1, g1, n1⟩ := weakenL_ok (X := X) (by rw [hX]; exact h1) (fun y hy => hv y (by simp [hy])) hg
    refine op1_ok hex hcon h2 hX (fun y hy => hv y (by simp [hy])) g1 ?_
    rintro a' w' ⟨st, hm, hl, χ', he, hg'⟩
    exact hn _ _ ⟨st, hm, n1 ▸ hl, χ', e1.trans (n1 ▸ he), hg'⟩

theorem bindS_mem {f : AS → ResS} : ∀ {l : List AS} {r : List AS} {v : List VC}, bindS f l = some (r, v) → ∀ s ∈ l, ∃ r' v', f s = some (r', v') ∧ (∀ x ∈ r', x ∈ r) ∧ ∀ y ∈ v', y ∈ v := by
  intro l
  induction l with
  | nil => intro r v _ s hs; cases hs
  | cons a l ih =>
    intro r v h s hs
    simp only [bindS] at h
    split at h
    · rename_i r1 v1 r2 v2 h1 h2
      cases h
      rcases List.mem_cons.1 hs with rfl | hs
      · exact ⟨r1, v1, h1, fun x hx => by simp [hx], fun y hy => by simp [hy]⟩
      · obtain ⟨r', v', k1, k2, k3⟩ := ih h2 s hs
        exact ⟨r', v', k1, fun x hx => by simp [k2 x hx], fun y hy => by simp [k3 y hy]⟩
    · cases h

theorem yielded_ok {X : Ctx} {s : AS} {χ : Chi} {a : Act} {w : World} (hg : gS X s χ a w) {ops : Array Oper} {j d : Nat} {f : Fm} (hd : (ops[j]?).bind (·.dst) = some d) (hs : s.tm[d]? = some (.pv (.one (.bool f)))) :
    yielded ops a.tmps j = some (f.b χ.ρ) := by
  have h1 := hg.tm d _ hs
  have hlt : d < a.tmps.size := by rw [← hg.size]; exact (List.getElem?_eq_some_iff.1 hs).1
  have h2 : a.tmps[d]? = some (.bool (f.b χ.ρ)) := by
    have : a.tmps.getD d undef = .bool (f.b χ.ρ) := h1
    rw [Array.getD_eq_getD_getElem?, Array.getElem?_eq_getElem hlt] at this
    rw [Array.getElem?_eq_getElem hlt]; exact congrArg some this
  unfold yielded
  rw [hd, Option.bind_some, h2]

def GRok (s : AS) (ρ : Val) (wt : Bool) : GR → Prop
  | .fail => True
  | .run => wt = true
  | .skip => wt = false
  | .split f f' => f.top ≤ s.nv ∧ f'.top ≤ s.nv ∧ ((wt = true ∧ f.holds ρ) ∨ (wt = false ∧ f'.holds ρ))

theorem Fm.neg_top (f : Fm) : f.neg.top ≤ f.top := by
  induction f with
  | and f g hf hg => simp only [Fm.neg, Fm.top]; omega
  | or f g hf hg => simp only [Fm.neg, Fm.top]; omega
  | le a b => simp only [Fm.neg, Fm.top]; omega
  | lt a b => simp only [Fm.neg, Fm.top]; omega
  | _ => exact Nat.le_refl _

theorem guardB_ok {X : Ctx} {s : AS} {χ : Chi} {a : Act} {w : World} (hg : gS X s χ a w) (f : Fm) (want : Bool) : GRok s χ.ρ (some (f.b χ.ρ) == some want) (guardB s f want) := by
  unfold guardB
  cases hdec : s.dec f with
  | some b =>
    have := AS.dec_ok hg hdec
    rw [this]
    dsimp only
    cases b <;> cases want <;> simp [GRok]
  | none =>
    dsimp only
    cases ht : Nat.ble f.top s.nv with
    | false => trivial
    | true =>
      have ht : f.top ≤ s.nv := by simpa using ht
      have ht2 : f.neg.top ≤ s.nv := Nat.le_trans (Fm.neg_top f) ht
      cases want <;> cases hb : f.b χ.ρ <;> simp [ht, ht2, GRok, ← Fm.b_iff, Fm.neg_b, hb]

theorem guard_spec (ops : Array Oper) {s : AS} (o : Oper) {X : Ctx} {χ : Chi} {a : Act} {w : World} (hg : gS X s χ a w) : GRok s χ.ρ (Region.wanted o (yielded ops a.tmps)) (guardRes s ops o) := by
  unfold guardRes Region.wanted
  cases hgd : o.guard with
  | none => exact rfl
  | some p =>
    obtain ⟨j, want⟩ := p
    dsimp only
    cases hd : (ops[j]?).bind (·.dst) with
    | none => trivial
    | some d =>
      dsimp only
      split
      · rename_i f hs
        rw [yielded_ok hg hd hs]
        exact guardB_ok hg f want
      · rename_i hs
        have h1 := hg.tm d _ hs
        have hlt : d < a.tmps.size := by rw [← hg.size]; exact (List.getElem?_eq_some_iff.1 hs).1
        obtain ⟨cs, h2, _⟩ := h1
        have h3 : a.tmps[d]? = some (.tuple cs) := by
          rw [Array.getD_eq_getD_getElem?, Array.getElem?_eq_getElem hlt] at h2
          rw [Array.getElem?_eq_getElem hlt]; exact congrArg some h2
        show ((yielded ops a.tmps j) == some want) = false
        unfold yielded
        rw [hd, Option.bind_some, h3]
        rfl
      · trivial

theorem PostS.trans {X : Ctx} {ss rr : List AS} {n : Nat} {χ : Chi} {st : AS} {χ1 : Chi} {a : Act} {w : World} (h : PostS X ss st.nv χ1 a w) (hx : Ext n χ χ1) (hn : n ≤ st.nv) (hm : ∀ x ∈ ss, x ∈ rr) : PostS X rr n χ a w := by
  obtain ⟨s, hs, hl, χ', he, hg⟩ := h
  exact ⟨s, hm s hs, Nat.le_trans hn hl, χ', hx.trans (he.mono hn), hg⟩

theorem execOps_ok {env : Env} {ex : Nat → Nat → Code → AS → Res} (hex : ExOK env ex) (hcon : ConOK env) {ops : Array Oper} : ∀ {l : List Nat} {s : AS} {ss : List AS} {vcs : List VC},
    execOps env ex ops l s = some (ss, vcs) → ∀ {X : Ctx}, X.P = env.P → (∀ y ∈ vcs, y.valid) → ∀ {χ : Chi} {a : Act} {w : World}, gS X s χ a w → ∀ {Q : Exit → Act → World → Prop}, (∀ a' w', PostS X ss s.nv χ a' w' → Q .normal a' w') →
    wpOps X.P ops Q l a w := by
  intro l
  induction l with
  | nil =>
    intro s ss vcs h X hX hv χ a w hg Q hQ
    simp only [execOps, Option.some.injEq, Prod.mk.injEq] at h
    obtain ⟨rfl, rfl⟩ := h
    exact hQ _ _ ⟨s, by simp, Nat.le_refl _, χ, Ext.refl _ _, hg⟩
  | cons i rest ih =>
    intro s ss vcs h X hX hv χ a w hg Q hQ
    simp only [execOps] at h
    split at h
    · cases h
    rename_i o ho
    have hgs := guard_spec ops o hg
    -- what the operation's run leads to
    have run : ∀ {st : AS} {χ1 : Chi}, gS X st χ1 a w → Ext s.nv χ χ1 → s.nv ≤ st.nv → ∀ {ss1 v1 r1 v2}, opW env ex st o = some (ss1, v1) → bindS (execOps env ex ops rest) ss1 = some (r1, v2) → (∀ x ∈ r1, x ∈ ss) → (∀ y ∈ v1, y ∈ vcs) → (∀ y ∈ v2, y ∈ vcs) →
        o.wp X.P a w (wpOps X.P ops Q rest) Q := by
      intro st χ1 hg1 hx1 hn1 ss1 v1 r1 v2 h1 h2 hm hv1 hv2
      refine opW_ok hex hcon h1 hX (fun y hy => hv y (hv1 y hy)) hg1 ?_
      rintro a' w' ⟨s2, hm2, hl2, χ2, he2, hg2⟩
      obtain ⟨r', v', k1, k2, k3⟩ := bindS_mem h2 s2 hm2
      exact ih k1 hX (fun y hy => hv y (hv2 y (k3 y hy))) hg2 fun a3 w3 hp => hQ _ _ (hp.trans (hx1.trans (he2.mono hn1)) (Nat.le_trans hn1 hl2) fun x hx => hm x (k2 x hx))
    have skip : ∀ {st : AS} {χ1 : Chi}, gS X st χ1 a w → Ext s.nv χ χ1 → s.nv ≤ st.nv → ∀ {r1 v2}, execOps env ex ops rest (st.put o.dst udR) = some (r1, v2) → (∀ x ∈ r1, x ∈ ss) → (∀ y ∈ v2, y ∈ vcs) →
        wpOps X.P ops Q rest (a.put o.dst undef) w := by
      intro st χ1 hg1 hx1 hn1 r1 v2 h2 hm hv2
      have hnv : (st.put o.dst udR).nv = st.nv := by rw [put_nv]; rfl
      exact ih h2 hX (fun y hy => hv y (hv2 y hy)) (hg1.putUd o.dst) fun a3 w3 hp => hQ _ _ (PostS.trans hp hx1 (by rw [hnv]; exact hn1) hm)
    rw [wpOps_cons]
    unfold wpOp
    rw [ho]
    dsimp only
    split at h
    · cases h
    · rename_i hr
      rw [hr] at hgs
      simp only [GRok] at hgs
      rw [if_pos hgs]
      split at h
      rotate_left
      · cases h
      rename_i ss1 v1 h1
      split at h
      rotate_left
      · cases h
      rename_i r v2 h2
      cases h
      exact .inl (run hg (Ext.refl _ _) (Nat.le_refl _) h1 h2 (fun x hx => hx) (fun y hy => by simp [hy]) (fun y hy => by simp [hy]))
    · rename_i hr
      rw [hr] at hgs
      simp only [GRok] at hgs
      rw [if_neg (by rw [hgs]; simp)]
      exact skip hg (Ext.refl _ _) (Nat.le_refl _) h (fun x hx => hx) (fun y hy => hy)
    · rename_i f f' hr
      rw [hr] at hgs
      simp only [GRok] at hgs
      obtain ⟨t1, t2, hgs⟩ := hgs
      split at h
      rotate_left
      · cases h
      rename_i ss1 v1 h1
      split at h
      rotate_left
      · cases h
      rename_i r1 v2 r2 v3 h2 h3
      cases h
      rcases hgs with ⟨hw, hf⟩ | ⟨hw, hf⟩
      · rw [if_pos hw]
        exact .inl (run (hg.assume hf t1) (Ext.refl _ _) (by rw [AS.assume_nv]; exact Nat.le_refl _) h1 h2 (fun x hx => by simp [hx]) (fun y hy => by simp [hy]) (fun y hy => by simp [hy]))
      · rw [if_neg (by rw [hw]; simp)]
        exact skip (hg.assume hf t2) (Ext.refl _ _) (by rw [AS.assume_nv]; exact Nat.le_refl _) h3 (fun x hx => by simp [hx]) (fun y hy => by simp [hy])

end Go.Sx

namespace Go.Sx
open Go

theorem gS.drew {X : Ctx} {s : AS} {χ : Chi} {a : Act} {w : World} (h : gS X s χ a w) : gS X s χ a w.drew :=
  ⟨h.inv.drew, h.mem.trans (MemExt.drew χ w), h.wf, h.defers, h.size, h.tm, h.hp, h.dist, h.fs, h.iv, h.gl⟩

theorem stepOp_ok {env : Env} (hcon : ConOK env) {s : AS} {o : Oper} {r : OR} (h : stepOp env s o = some r) {X : Ctx} (hX : X.P = env.P) (hv : ∀ y ∈ r.vcs, y.valid) {χ : Chi} {a : Act} {w : World} (hg : gS X s χ a w)
    {next : Act → World → Prop} {Q : Exit → Act → World → Prop} (hn : ∀ v w' χ', Step X s r χ w χ' w' v → next (a.put o.dst v) w') : o.wp X.P a w next Q := by
  have val : absVal' env s o.op = some r → o.wp X.P a w next Q := by
    intro h
    obtain ⟨v, w', χ', hrun, hs⟩ := absVal'_ok hX h χ a w hg hv
    exact Oper.wp_val hrun (hn _ _ _ hs)
  unfold stepOp at h
  split at h
  · rename_i t addr x ho
    obtain ⟨w', χ', hrun, hs⟩ := absStoreW_ok ho (by rw [hX]; exact h) χ a w hg hv
    exact Oper.wp_skip hrun (hn _ _ _ hs)
  · cases h
  · rename_i c ho
    split at h
    · rename_i f hc
      split at h
      rotate_left
      · cases h
      rename_i fid caps hf
      split at h
      rotate_left
      · cases h
      rename_i fn hfn
      split at h
      rotate_left
      · cases h
      rename_i body hbody
      cases hname : (fn.name == "runtime.NumGoroutine") with
      | true => rw [hname] at h; cases h
      | false =>
      rw [hname] at h
      simp only [cond_false] at h
      have hx := s.osv_ok hg f
      rw [hf] at hx
      obtain ⟨vs, hfv, hcaps⟩ := hx
      have hrun := run_callF (P := X.P) (a := a) (w := w) ho hc hfv (by rw [hX]; exact hfn) hbody hname
      have h2 : All2 (gAV X.P χ) (c.args.toList.map s.opd ++ caps.map fun c => AV.pv (.one c.sv)) (c.args.map a.eval ++ vs).toList := by
        rw [Array.toList_append, Array.toList_map]
        exact all2_append (opds_ok hg _) (capsOK_all2 hcaps)
      split at h
      rotate_left
      · cases h
      rename_i con hcn
      have := absCon_ok (X := X) (f := fid) (by rw [hX]; exact hcon _ _ hcn) h hv hg h2
      refine Oper.wp_enter hrun (this.mono ?_)
      rintro e w' ⟨v, χ', rfl, hs⟩
      exact ⟨v, rfl, hn _ _ _ hs⟩
    · exact val h
  · exact val h

def lf (listed : Array Bool) (i : Nat) : Bool := listed.getD i false

def unl : List Bool → Nat
  | [] => 0
  | true :: l => unl l
  | false :: l => unl l + 1

theorem unl_set : ∀ {l : List Bool} {i : Nat}, l[i]? = some false → unl (l.set i true) + 1 = unl l := by
  intro l
  induction l with
  | nil => intro i h; simp at h
  | cons b l ih =>
    intro i h
    cases i with
    | zero => simp at h; subst h; simp [unl]
    | succ i => simp at h; have := ih h; cases b <;> simp [unl, this]

theorem unl_pos : ∀ {l : List Bool} {i : Nat}, l[i]? = some false → 0 < unl l := by
  intro l i h
  have := unl_set h
  omega

theorem unl_rep : ∀ n, unl (List.replicate n false) = n := by
  intro n
  induction n with
  | zero => rfl
  | succ n ih => simp [List.replicate_succ, unl, ih]

structure Lst (ops : Array Oper) (listed : Array Bool) (lo hi : Nat) : Prop where
  size : listed.size = ops.size
  below : ∀ i, i < lo → i < ops.size → lf listed i = true
  above : ∀ i, hi ≤ i → lf listed i = false

theorem lf_set {listed : Array Bool} {i j : Nat} (hi : i < listed.size) : lf (listed.setIfInBounds i true) j = (if j = i then true else lf listed j) := by
  simp only [lf, Array.getD_eq_getD_getElem?, Array.getElem?_setIfInBounds]
  by_cases h : i = j
  · subst h; simp [hi]
  · simp [h, Ne.symm h]

theorem lf_get {ops : Array Oper} {listed : Array Bool} (hs : listed.size = ops.size) {i : Nat} (hi : i < ops.size) : listed[i]? = some (lf listed i) := by
  simp [lf, Array.getD_eq_getD_getElem?, Array.getElem?_eq_getElem (show i < listed.size by omega)]

theorem bindsE_eq (e : Edge) : Region.binds .any e = bindsE e := by
  unfold Region.binds bindsE
  cases e.ground <;> rfl

theorem mem_ready {ops : Array Oper} {listed : Array Bool} (hs : listed.size = ops.size) {i : Nat} : i ∈ Region.ready .any ops listed ↔ i < ops.size ∧ lf listed i = false ∧ ∀ d ∈ depsAt ops i, lf listed d = true := by
  unfold Region.ready
  simp only [List.mem_filter, List.mem_range, Bool.and_eq_true, Bool.not_eq_true']
  constructor
  · rintro ⟨h1, h2, h3⟩
    refine ⟨h1, ?_, ?_⟩
    · simpa [lf, Array.getD_eq_getD_getElem?, Array.getElem?_eq_getElem (show i < listed.size by omega)] using h2
    · intro d hd
      unfold depsAt at hd
      rw [Array.getElem?_eq_getElem h1] at hd h3
      simp only [Option.map_some, Option.getD_some] at h3
      rw [← Array.all_toList, List.all_eq_true] at h3
      simp only [depsOf, List.mem_filterMap] at hd
      obtain ⟨e, he, hd⟩ := hd
      cases hb : bindsE e with
      | false => rw [hb] at hd; cases hd
      | true =>
        rw [hb] at hd
        cases hd
        have := h3 e he
        rw [bindsE_eq, hb] at this
        simpa [lf] using this
  · rintro ⟨h1, h2, h3⟩
    refine ⟨h1, ?_, ?_⟩
    · simpa [lf, Array.getD_eq_getD_getElem?, Array.getElem?_eq_getElem (show i < listed.size by omega)] using h2
    · unfold depsAt at h3
      rw [Array.getElem?_eq_getElem h1] at h3 ⊢
      simp only [Option.map_some, Option.getD_some]
      rw [← Array.all_toList, List.all_eq_true]
      intro e he
      rw [bindsE_eq]
      cases hb : bindsE e with
      | false => rfl
      | true =>
        have := h3 e.on (by simp only [depsOf, List.mem_filterMap]; exact ⟨e, he, by rw [hb]; rfl⟩)
        simpa [lf] using this

theorem depsLt_ok {ops : Array Oper} : ∀ {n : Nat}, depsLt ops n = true → ∀ i, i < n → ∀ d ∈ depsAt ops i, d < i := by
  intro n
  induction n with
  | zero => intro _ i hi; omega
  | succ n ih =>
    intro h i hi d hd
    simp only [depsLt, Bool.and_eq_true, List.all_eq_true] at h
    rcases Nat.lt_or_ge i n with hlt | hge
    · exact ih h.2 i hlt d hd
    · have : i = n := by omega
      subst this
      simpa using h.1 d hd

theorem waitsAll_ok {ops : Array Oper} {i : Nat} : ∀ {n k : Nat}, waitsAll ops i n k = true → ∀ j, k ≤ j → j < k + n → ∃ d ∈ depsAt ops j, i ≤ d := by
  intro n
  induction n with
  | zero => intro k _ j h1 h2; omega
  | succ n ih =>
    intro k h j h1 h2
    simp only [waitsAll, Bool.and_eq_true, List.any_eq_true, Nat.ble_eq] at h
    rcases Nat.eq_or_lt_of_le h1 with h3 | h3
    · subst h3; exact h.1
    · exact ih h.2 j h3 (by omega)

theorem isBar_ok {ops : Array Oper} {i : Nat} (h : isBar ops i = true) {listed : Array Bool} (hs : listed.size = ops.size) {k : Nat} (hk : i < k) (hr : k ∈ Region.ready .any ops listed) : ∃ d, i ≤ d ∧ lf listed d = true := by
  obtain ⟨h1, _, h3⟩ := (mem_ready hs).1 hr
  obtain ⟨d, hd, hid⟩ := waitsAll_ok h k (by omega) (by omega)
  exact ⟨d, hid, h3 d hd⟩

def LC (ops : Array Oper) (listed : Array Bool) : Prop := ∀ i, lf listed i = true → ∀ d ∈ depsAt ops i, lf listed d = true

theorem unionN_mem : ∀ {l b : List Nat} {x : Nat}, x ∈ unionN l b → x ∈ l ∨ x ∈ b := by
  intro l
  induction l with
  | nil => intro b x h; exact .inr h
  | cons a l ih =>
    intro b x h
    simp only [unionN] at h
    cases hc : nmem a b with
    | true => rw [hc] at h; rcases ih h with h | h <;> simp [h]
    | false => rw [hc] at h; rcases ih h with h | h
               · simp [h]
               · rcases List.mem_cons.1 h with h | h <;> simp [h]

theorem rowOf_mem {t : List (List Nat)} : ∀ {l acc : List Nat} {x : Nat}, x ∈ rowOf t l acc → x ∈ acc ∨ ∃ d ∈ l, x = d ∨ ∃ r, t[d]? = some r ∧ x ∈ r := by
  intro l
  induction l with
  | nil => intro acc x h; exact .inl h
  | cons a l ih =>
    intro acc x h
    simp only [rowOf] at h
    rcases ih h with h | ⟨d, hd, h⟩
    · rcases unionN_mem h with h | h
      · rcases List.mem_cons.1 h with h | h
        · exact .inr ⟨a, by simp, .inl h⟩
        · refine .inr ⟨a, by simp, .inr ?_⟩
          split at h
          · rename_i r hr; exact ⟨r, hr, h⟩
          · cases h
      · exact .inl h
    · exact .inr ⟨d, by simp [hd], h⟩

theorem tabOf_len {ops : Array Oper} : ∀ n, (tabOf ops n).length = n := by
  intro n
  induction n with
  | zero => rfl
  | succ n ih => simp [tabOf, ih]

theorem tabOf_get {ops : Array Oper} : ∀ {n i : Nat}, i < n → (tabOf ops n)[i]? = some (rowOf (tabOf ops i) (depsAt ops i) []) := by
  intro n
  induction n with
  | zero => intro i h; omega
  | succ n ih =>
    intro i h
    simp only [tabOf]
    rcases Nat.lt_or_ge i n with hlt | hge
    · rw [List.getElem?_append_left (by rw [tabOf_len]; exact hlt)]; exact ih hlt
    · have : i = n := by omega
      subst this
      rw [List.getElem?_append_right (by rw [tabOf_len]; exact Nat.le_refl _), tabOf_len]; simp

theorem tab_closed {ops : Array Oper} {listed : Array Bool} (hc : LC ops listed) : ∀ {i n : Nat} {r : List Nat}, (tabOf ops n)[i]? = some r → (∀ d ∈ depsAt ops i, lf listed d = true) → ∀ x ∈ r, lf listed x = true := by
  intro i
  induction i using Nat.strongRecOn with
  | _ i ih =>
    intro n r hr hd x hx
    have hi : i < n := by have := (List.getElem?_eq_some_iff.1 hr).1; rwa [tabOf_len] at this
    rw [tabOf_get hi] at hr
    cases hr
    rcases rowOf_mem hx with h | ⟨d, hdm, h | ⟨r', hr', h⟩⟩
    · cases h
    · subst h; exact hd _ hdm
    · have hdi : d < i := by have := (List.getElem?_eq_some_iff.1 hr').1; rwa [tabOf_len] at this
      exact ih d hdi hr' (hc d (hd d hdm)) x h

theorem mem_rangeN : ∀ {k lo x : Nat}, x ∈ rangeN lo k ↔ lo ≤ x ∧ x < lo + k := by
  intro k
  induction k with
  | zero => intro lo x; simp only [rangeN, List.not_mem_nil, false_iff]; omega
  | succ k ih => intro lo x; simp only [rangeN, List.mem_cons, ih]; omega

theorem nmem_mem : ∀ {l : List Nat} {x : Nat}, nmem x l = true ↔ x ∈ l := by
  intro l
  induction l with
  | nil => intro x; simp [nmem]
  | cons a l ih =>
    intro x
    simp only [nmem, Bool.or_eq_true, List.mem_cons]
    constructor
    · rintro (h | h)
      · exact .inl (Nat.eq_of_beq_eq_true h)
      · exact .inr (ih.1 h)
    · rintro (h | h)
      · exact .inl (by rw [h]; exact Nat.beq_refl a)
      · exact .inr (ih.2 h)

theorem LC.set {ops : Array Oper} {listed : Array Bool} (h : LC ops listed) (hs : listed.size = ops.size) {i : Nat} (hi : i < ops.size) (hd : ∀ d ∈ depsAt ops i, lf listed d = true) : LC ops (listed.setIfInBounds i true) := by
  intro j hj d hdj
  rw [lf_set (by omega)] at hj ⊢
  split
  · rfl
  · by_cases hji : j = i
    · subst hji; exact hd d hdj
    · rw [if_neg hji] at hj; exact h j hj d hdj

theorem LC.of_lst {ops : Array Oper} {listed : Array Bool} {lo : Nat} (hl : Lst ops listed lo lo) (hlt : ∀ i, i < ops.size → ∀ d ∈ depsAt ops i, d < i) : LC ops listed := by
  intro i hi d hd
  have h1 : i < lo := by
    rcases Nat.lt_or_ge i lo with h | h
    · exact h
    · rw [hl.above i h] at hi; cases hi
  rcases Nat.lt_or_ge i ops.size with h2 | h2
  · have := hlt i h2 d hd
    exact hl.below d (by omega) (by omega)
  · unfold depsAt at hd
    rw [Array.getElem?_eq_none h2] at hd
    cases hd

def PhOK (env : Env) (ops : Array Oper) (s0 : AS) (sd : Sd) : List PI → List PI → Prop
  | _, [] => True
  | pre, p :: l => (∃ o, ops[p.i]? = some o ∧ p.dst = o.dst ∧ p.n = (foldP (fun j => nmem j p.ps) pre s0).nv ∧
      ((guardRes (foldP (fun j => nmem j p.ps) pre s0) ops o = .run ∧ stepSd env (foldP (fun j => nmem j p.ps) pre s0) sd p.i o = some p.r) ∨
       (guardRes (foldP (fun j => nmem j p.ps) pre s0) ops o = .skip ∧ p.r = udR))) ∧ PhOK env ops s0 sd (pre ++ [p]) l

theorem runPhase_ok {env : Env} {ops : Array Oper} {tab : List (List Nat)} {s0 : AS} {sd : Sd} : ∀ {l : List Nat} {acc its : List PI}, runPhase env ops tab s0 sd l acc = some its →
    ∃ new, its = acc ++ new ∧ new.map (·.i) = l ∧ PhOK env ops s0 sd acc new ∧ ∀ p ∈ new, p.ps = (match tab[p.i]? with | some r => r | none => []) := by
  intro l
  induction l with
  | nil => intro acc its h; simp only [runPhase, Option.some.injEq] at h; exact ⟨[], by simp [h], rfl, trivial, fun p hp => nomatch hp⟩
  | cons i l ih =>
    intro acc its h
    simp only [runPhase] at h
    split at h
    · cases h
    rename_i o ho
    split at h
    · rename_i hg
      split at h
      rotate_left
      · cases h
      rename_i r hr
      obtain ⟨new, h1, h2, h3, h4⟩ := ih h
      refine ⟨_ :: new, by rw [h1]; simp, by simp [h2], ⟨⟨o, ho, rfl, rfl, .inl ⟨hg, hr⟩⟩, h3⟩, fun p hp => ?_⟩
      rcases List.mem_cons.1 hp with hp | hp
      · subst hp; rfl
      · exact h4 p hp
    · rename_i hg
      obtain ⟨new, h1, h2, h3, h4⟩ := ih h
      refine ⟨_ :: new, by rw [h1]; simp, by simp [h2], ⟨⟨o, ho, rfl, rfl, .inr ⟨hg, rfl⟩⟩, h3⟩, fun p hp => ?_⟩
      rcases List.mem_cons.1 hp with hp | hp
      · subst hp; rfl
      · exact h4 p hp
    · cases h

theorem PhOK.get {env : Env} {ops : Array Oper} {s0 : AS} {sd : Sd} : ∀ {l pre : List PI}, PhOK env ops s0 sd pre l → ∀ p ∈ l, ∃ a b, l = a ++ p :: b ∧ ∃ o, ops[p.i]? = some o ∧ p.dst = o.dst ∧ p.n = (foldP (fun j => nmem j p.ps) (pre ++ a) s0).nv ∧
      ((guardRes (foldP (fun j => nmem j p.ps) (pre ++ a) s0) ops o = .run ∧ stepSd env (foldP (fun j => nmem j p.ps) (pre ++ a) s0) sd p.i o = some p.r) ∨
       (guardRes (foldP (fun j => nmem j p.ps) (pre ++ a) s0) ops o = .skip ∧ p.r = udR)) := by
  intro l
  induction l with
  | nil => intro pre _ p hp; cases hp
  | cons q l ih =>
    intro pre h p hp
    rcases List.mem_cons.1 hp with hp | hp
    · rw [hp]; exact ⟨[], l, rfl, by simpa using h.1⟩
    · obtain ⟨a, b, h1, h2⟩ := ih h.2 p hp
      exact ⟨q :: a, b, by rw [h1]; rfl, by simpa using h2⟩

theorem nOK_append : ∀ {a b : List PI} {n : Nat}, nOK n (a ++ b) = true → nOK n a = true ∧ nOK (n + (a.map fun p => p.r.ivs.length).sum) b = true := by
  intro a
  induction a with
  | nil => intro b n h; exact ⟨rfl, by simpa using h⟩
  | cons p a ih =>
    intro b n h
    simp only [List.cons_append, nOK, Bool.and_eq_true] at h ⊢
    obtain ⟨h1, h2⟩ := ih h.2.2.2
    refine ⟨⟨h.1, h.2.1, h.2.2.1, h1⟩, ?_⟩
    simpa [Nat.add_assoc] using h2

theorem wpOp_in {P : Program} {ops : Array Oper} {Q : Exit → Act → World → Prop} {i : Nat} {K : Act → World → Prop} {a : Act} {w : World} {o : Oper} (ho : ops[i]? = some o)
    (h : (Region.wanted o (yielded ops a.tmps) = true ∧ o.wp P a w K Q) ∨ (Region.wanted o (yielded ops a.tmps) = false ∧ K (a.put o.dst undef) w)) : wpOp P ops Q i K a w := by
  unfold wpOp
  rw [ho]
  dsimp only
  rcases h with ⟨h1, h2⟩ | ⟨h1, h2⟩
  · rw [if_pos h1]; exact .inl h2
  · rw [if_neg (by rw [h1]; simp)]; exact h2

theorem GD.cast {X : Ctx} {its : List PI} {s0 : AS} {sd : Sd} {D D' : Nat → Prop} {χ : Chi} {a : Act} {w : World} (h : GD X its s0 sd D χ a w) (hD : ∀ k, D' k ↔ D k) : GD X its s0 sd D' χ a w where
  base := h.base
  got := fun p hp hk => h.got p hp ((hD _).1 hk)
  d0 := fun p hp hk => h.d0 p hp ((hD _).1 hk)
  dd := fun p hp hk q hq hk' => h.dd p hp ((hD _).1 hk) q hq ((hD _).1 hk')
  side := fun i e hs hn => by
    obtain ⟨a1, a2, a3, a4⟩ := h.side i e hs (fun hk => hn ((hD _).2 hk))
    exact ⟨a1, a2, a3, fun q hq hk => a4 q hq ((hD _).1 hk)⟩

theorem foldP_hp {f : Nat → Bool} : ∀ {l : List PI} {s : AS} {e : HE}, e ∈ (foldP f l s).hp → e ∈ s.hp ∨ ∃ p ∈ l, f p.i = true ∧ e ∈ p.r.hp := by
  intro l
  induction l with
  | nil => intro s e h; exact .inl h
  | cons p l ih =>
    intro s e h
    simp only [foldP] at h
    rcases ih h with h | ⟨q, h1, h2⟩
    · cases hf : f p.i with
      | false => rw [hf] at h; exact .inl h
      | true =>
        rw [hf] at h
        simp only [cond_true, AS.put, List.mem_append] at h
        rcases h with h | h
        · exact .inl h
        · exact .inr ⟨p, by simp, hf, h⟩
    · exact .inr ⟨q, by simp [h1], h2⟩

theorem GD.sideM {X : Ctx} {its pre : List PI} {s0 : AS} {i : Nat} {e : HE} {D : Nat → Prop} {χ : Chi} {a : Act} {w : World} (h : GD X its s0 (some (i, e)) D χ a w) (_ : pwB its = true) (hpre : ∀ q ∈ pre, q ∈ its) {f : Nat → Bool} (hf : ∀ q ∈ pre, f q.i = true → D q.i) (hD : ¬ D i) :
    HEok X χ w e ∧ e.top' ≤ s0.nv ∧ ∀ e' ∈ (foldP f pre s0).hp, (χ.ρ e'.b).toNat ≠ (χ.ρ e.b).toNat := by
  obtain ⟨g1, g2, g3, g4⟩ := h.side _ _ rfl hD
  refine ⟨g1, g2, fun e' he' => ?_⟩
  rcases foldP_hp he' with h1 | ⟨q, h1, h2, h3⟩
  · exact g3 e' h1
  · exact g4 q (hpre q h1) (hf q h1 h2) e' h3

theorem gS.addHE {X : Ctx} {s : AS} {χ : Chi} {a : Act} {w : World} (h : gS X s χ a w) {e : HE} (he : HEok X χ w e) (ht : e.top' ≤ s.nv) (hne : ∀ e' ∈ s.hp, (χ.ρ e'.b).toNat ≠ (χ.ρ e.b).toNat) : gS X { s with hp := e :: s.hp } χ a w :=
  { inv := h.inv, mem := h.mem, wf := ⟨h.wf.tm, fun x hx => by
      rcases List.mem_cons.1 hx with hx | hx
      · subst hx; exact ht
      · exact h.wf.hp x hx, h.wf.fs⟩, defers := h.defers, size := h.size, tm := h.tm, hp := fun x hx => by
      rcases List.mem_cons.1 hx with hx | hx
      · subst hx; exact he
      · exact h.hp x hx
    dist := List.pairwise_cons.2 ⟨fun e' he' => (hne e' he').symm, h.dist⟩, fs := h.fs, iv := h.iv, gl := h.gl }

theorem storeR_ok {X : Ctx} {m : AS} {e : HE} {o : Oper} {r : OR} (h : storeR X.P m e o = some r) {χ : Chi} {a : Act} {w : World} (hg : gS X m χ a w) {n : Nat} (hs : HEok X χ w e ∧ e.top' ≤ n ∧ ∀ e' ∈ m.hp, (χ.ρ e'.b).toNat ≠ (χ.ρ e.b).toNat) (hn : n ≤ m.nv) :
    ∃ e1 w' ob, o.dst = none ∧ r = { av := .pv (.one .top), hp := [e1] } ∧ (execOp a.eval o).run X.P w = .ok .skip w' ∧ w' = setBlk w (χ.ρ e.b).toNat ob ∧ e1.b = e.b ∧ HEok X χ w' e1 := by
  unfold storeR at h
  split at h
  rotate_left
  · cases h
  rename_i t addr x ho hd
  split at h
  rotate_left
  · cases h
  rename_i s' b off hst hb
  cases hbe : Nat.beq b e.b with
  | false => rw [hbe] at h; cases h
  | true =>
  rw [hbe] at h
  have hbe := Nat.eq_of_beq_eq_true hbe
  subst hbe
  simp only [cond_true] at h
  split at h
  rotate_left
  · cases h
  rename_i e1 l he1
  cases h
  obtain ⟨g1, g2, g3⟩ := hs
  have hg2 := hg.addHE g1 (Nat.le_trans g2 hn) g3
  obtain ⟨w', hrun, hg', b', off', ob, ha, hw⟩ := absStoreS_ok ho hst hg2
  have hbb : b' = e.b := by
    have : m.osv addr = .ptr b' off' := ha
    rw [hb] at this
    cases this; rfl
  subst hbb
  refine ⟨e1, w', ob, hd, rfl, hrun, hw, ?_, hg'.hp e1 (by rw [he1]; simp)⟩
  have hhp : ∃ k, s'.hp = hpSet e.b k ((m.opd x).cells.getD []) (e :: m.hp) := by
    unfold absStoreS at hst
    split at hst
    rotate_left
    · cases hst
    rename_i b2 off2 l2 sz hh1 hh2 hh3
    have : m.osv addr = .ptr b2 off2 := hh1
    rw [hb] at this
    cases this
    split at hst
    rotate_left
    · cases hst
    have h5 : (m.opd x).cells = some l2 := hh2
    rename_i e0 _
    cases hc : (Nat.beq l2.length sz && Nat.ble (off + sz) e0.cells.length && l2.all (fun c => Nat.ble c.top' ({ m with hp := e :: m.hp } : AS).nv)) with
    | false => rw [hc] at hst; cases hst
    | true =>
      rw [hc] at hst
      cases hst
      exact ⟨off, by rw [h5]; rfl⟩
  obtain ⟨k, hk⟩ := hhp
  have hm := hpSet_b (b := e.b) (off := k) (l := (m.opd x).cells.getD []) (e :: m.hp)
  rw [← hk, he1] at hm
  simp only [List.map_cons, List.cons.injEq] at hm
  exact hm.1

theorem many_ok {env : Env} (hcon : ConOK env) {ops : Array Oper} {s0 : AS} {sd : Sd} {its : List PI} {lo hi : Nat} (hlt : ∀ i, i < ops.size → ∀ d ∈ depsAt ops i, d < i) (hi2 : hi ≤ ops.size) (hlo : lo ≤ hi)
    (hbar : hi = ops.size ∨ (isBar ops hi = true ∧ ∀ j, lo ≤ j → j < hi → ∃ r, (tabOf ops ops.size)[hi]? = some r ∧ j ∈ r))
    (hidx : its.map (·.i) = rangeN lo (hi - lo)) (hph : PhOK env ops s0 sd [] its) (hps : ∀ p ∈ its, p.ps = (match (tabOf ops ops.size)[p.i]? with | some r => r | none => []))
    (hn : nOK s0.nv its = true) (hpw : pwB its = true) (htop : ∀ p ∈ its, topAt s0 p.dst = true) (hv : ∀ p ∈ its, ∀ y ∈ p.r.vcs, y.valid)
    {X : Ctx} (hX : X.P = env.P) {Q : Exit → Act → World → Prop} {χ0 : Chi}
    (cont : ∀ fuel listed χ a w, Lst ops listed hi hi → unl listed.toList ≤ fuel → gS X (foldP (fun _ => true) its s0) χ a w → Ext s0.nv χ0 χ → wpAny X.P .any ops Q fuel listed a w) :
    ∀ fuel listed χ a w, Lst ops listed lo hi → LC ops listed → unl listed.toList ≤ fuel → GD X its s0 sd (fun i => lf listed i = true) χ a w → Ext s0.nv χ0 χ → wpAny X.P .any ops Q fuel listed a w := by
  intro fuel
  induction fuel with
  | zero =>
    intro listed χ a w hl hc hu hg hx
    have hall : ∀ i, i < ops.size → lf listed i = true := by
      intro i hi
      cases hb : lf listed i with
      | true => rfl
      | false =>
        have := unl_pos (l := listed.toList) (i := i) (by rw [Array.getElem?_toList, lf_get hl.size hi, hb])
        omega
    refine cont 0 listed χ a w ⟨hl.size, fun i _ h2 => hall i h2, hl.above⟩ hu ?_ hx
    refine hg.fold hpw (fun p hp => hp) (pw_i hpw) hn fun p hp _ => ?_
    have : p.i ∈ rangeN lo (hi - lo) := by rw [← hidx]; exact List.mem_map_of_mem hp
    rw [mem_rangeN] at this
    exact hall _ (by omega)
  | succ fuel ih =>
    intro listed χ a w hl hc hu hg hx
    rcases Classical.em (∀ i, lo ≤ i → i < hi → lf listed i = true) with hall | hnot
    · refine cont _ listed χ a w ⟨hl.size, fun i h1 h2 => ?_, hl.above⟩ hu ?_ hx
      · rcases Nat.lt_or_ge i lo with h | h
        · exact hl.below i h h2
        · exact hall i h h1
      · refine hg.fold hpw (fun p hp => hp) (pw_i hpw) hn fun p hp _ => ?_
        have : p.i ∈ rangeN lo (hi - lo) := by rw [← hidx]; exact List.mem_map_of_mem hp
        rw [mem_rangeN] at this
        exact hall _ this.1 (by omega)
    · -- the least that has not come up is ready
      have ⟨j, hj⟩ : ∃ j, lo ≤ j ∧ j < hi ∧ lf listed j = false := by
        rcases Classical.em (∃ j, lo ≤ j ∧ j < hi ∧ lf listed j = false) with h | h
        · exact h
        · exact absurd (fun i h1 h2 => by cases hb : lf listed i with | true => rfl | false => exact absurd ⟨i, h1, h2, hb⟩ h) hnot
      obtain ⟨m, hm, hmin⟩ := exists_least (p := fun j => lo ≤ j ∧ j < hi ∧ lf listed j = false) ⟨j, hj⟩
      have hmr : m ∈ Region.ready .any ops listed := by
        rw [mem_ready hl.size]
        refine ⟨by omega, hm.2.2, fun d hd => ?_⟩
        have hdm := hlt m (by omega) d hd
        rcases Nat.lt_or_ge d lo with h | h
        · exact hl.below d h (by omega)
        · cases hb : lf listed d with
          | true => rfl
          | false => have := hmin d ⟨h, by omega, hb⟩; omega
      refine ⟨fun he => (by rw [he] at hmr; cases hmr), fun i hir => ?_⟩
      obtain ⟨r1, r2, r3⟩ := (mem_ready hl.size).1 hir
      have hilo : lo ≤ i := by
        rcases Nat.lt_or_ge i lo with h | h
        · rw [hl.below i h r1] at r2; cases r2
        · exact h
      have hihi : i < hi := by
        rcases Nat.lt_or_ge i hi with h | h
        · exact h
        · exfalso
          rcases hbar with hb | ⟨hb, htab⟩
          · omega
          · rcases Nat.eq_or_lt_of_le h with h2 | h2
            · subst h2
              obtain ⟨r, hr, hjr⟩ := htab m hm.1 hm.2.1
              have := tab_closed hc hr r3 m hjr
              rw [hm.2.2] at this; cases this
            · obtain ⟨d, hd, hdl⟩ := isBar_ok hb hl.size h2 hir
              rw [hl.above d hd] at hdl; cases hdl
      have hmem : i ∈ its.map (·.i) := by rw [hidx, mem_rangeN]; omega
      obtain ⟨p, hp, hpi⟩ := List.mem_map.1 hmem
      obtain ⟨pre, post, hsplit, o, ho, hdst, hpn, hrun⟩ := hph.get p hp
      simp only [List.nil_append] at hpn hrun
      rw [hpi] at ho
      have hpre : ∀ q ∈ pre, q ∈ its := fun q hq => by rw [hsplit]; simp [hq]
      have hnsp := hn
      rw [hsplit] at hnsp
      obtain ⟨hn1, hn2⟩ := nOK_append hnsp
      have hipre : pre.Pairwise fun p q => p.i ≠ q.i := by
        have := pw_i hpw
        rw [hsplit] at this
        exact (List.pairwise_append.1 this).1
      have hclosed : ∀ q ∈ its, lf listed q.i = true → ∀ x, nmem x q.ps = true → lf listed x = true := by
        intro q hq hql x hx
        rw [hps q hq] at hx
        split at hx
        · rename_i r hr
          exact tab_closed hc hr (hc _ hql) x (nmem_mem.1 hx)
        · cases hx
      have hgm : gS X (foldP (fun j => nmem j p.ps) pre s0) χ a w := by
        refine hg.fold hpw hpre hipre hn1 fun q hq hqp => ?_
        have : nmem q.i p.ps = true := hqp
        rw [hps p hp] at this
        split at this
        · rename_i r hr
          rw [hpi] at hr
          exact tab_closed hc hr r3 _ (nmem_mem.1 this)
        · cases this
      have hD : ¬ (lf listed p.i = true) := by rw [hpi, r2]; simp
      simp only [nOK, Bool.and_eq_true, Nat.ble_eq] at hn2
      have hnn : p.n = s0.nv + (pre.map fun p => p.r.ivs.length).sum := by simpa using hn2.1
      have next : ∀ v w' χ', Step X (foldP (fun j => nmem j p.ps) pre s0) p.r χ w χ' w' v → wpAny X.P .any ops Q fuel (listed.setIfInBounds i true) (a.put o.dst v) w' := by
        intro v w' χ' hs
        have hdl : ∀ d, p.dst = some d → d < a.tmps.size := by
          intro d hd
          have ht := htop p hp
          rw [hd] at ht
          simp only [topAt] at ht
          split at ht
          · rename_i e; rw [← hg.base.size]; exact (List.getElem?_eq_some_iff.1 e).1
          · cases ht
        obtain ⟨χ2, hx2, hg2⟩ := hg.step hpw hp hD (fun q hq hql => by
            cases hb : nmem p.i q.ps with
            | false => rfl
            | true => exact absurd (hclosed q hq hql _ hb) hD) (htop p hp) (by omega) (by rw [PI.hi, hnn]; exact hn2.2.1) hn2.2.2.1 hpn.symm hs hdl
        rw [hdst] at hg2
        refine ih _ χ2 _ _ ⟨by simp [hl.size], fun k h1 h2 => ?_, fun k h1 => ?_⟩ (hc.set hl.size r1 r3) ?_ ?_ (hx.trans hx2)
        · rw [lf_set (by rw [hl.size]; exact r1)]; split
          · rfl
          · exact hl.below k h1 h2
        · rw [lf_set (by rw [hl.size]; exact r1), if_neg (by omega)]; exact hl.above k h1
        · have := unl_set (l := listed.toList) (i := i) (by rw [Array.getElem?_toList, lf_get hl.size r1, r2])
          rw [Array.toList_setIfInBounds]
          omega
        · have mono : ∀ k, lf (listed.setIfInBounds i true) k = true → lf listed k = true ∨ k = p.i := by
            intro k hk
            rw [lf_set (by rw [hl.size]; exact r1)] at hk
            split at hk
            · rename_i h; exact .inr (by rw [h, hpi])
            · exact .inl hk
          have mono2 : ∀ k, (lf listed k = true ∨ k = p.i) → lf (listed.setIfInBounds i true) k = true := by
            intro k hk
            rw [lf_set (by rw [hl.size]; exact r1)]
            split
            · rfl
            · rename_i h
              rcases hk with hk | hk
              · exact hk
              · exact absurd (by rw [hk, hpi]) h
          exact ⟨hg2.base, fun q hq hk => hg2.got q hq (mono _ hk), fun q hq hk => hg2.d0 q hq (mono _ hk), fun q hq hk q' hq' hk' => hg2.dd q hq (mono _ hk) q' hq' (mono _ hk'), fun k e hk hd => by
            obtain ⟨z1, z2, z3, z4⟩ := hg2.side k e hk (fun hh => hd (mono2 _ hh))
            exact ⟨z1, z2, z3, fun q hq hqk => z4 q hq (mono _ hqk)⟩⟩
      have hgs := guard_spec ops o hgm
      refine wpOp_in ho ?_
      rcases hrun with ⟨h1, h2⟩ | ⟨h1, h2⟩
      · rw [h1] at hgs
        refine .inl ⟨hgs, ?_⟩
        unfold stepSd at h2
        split at h2
        · rename_i r hr
          cases h2
          exact stepOp_ok hcon hr hX (hv p hp) hgm next
        · split at h2
          rotate_left
          · cases h2
          rename_i j e
          cases hji : Nat.beq j p.i with
          | false => rw [hji] at h2; cases h2
          | true =>
          rw [hji] at h2
          simp only [cond_true] at h2
          have hji := Nat.eq_of_beq_eq_true hji
          subst hji
          obtain ⟨e1, w', ob, hodst, hpr, hrun, rfl, heb, hek⟩ := storeR_ok (X := X) (by rw [hX]; exact h2) hgm (hg.sideM hpw hpre (f := fun j => nmem j p.ps) (by
            intro q hq hqp
            have : nmem q.i p.ps = true := hqp
            rw [hps p hp] at this
            split at this
            · rename_i r hr
              rw [hpi] at hr
              exact tab_closed hc hr r3 _ (nmem_mem.1 this)
            · cases this) hD) (by rw [← hpn]; omega)
          have hgd := hg.stepS hpw hp hD (hdst.trans hodst) hpr heb hek
          have hput : a.put o.dst undef = a := by rw [hodst]; rfl
          refine Oper.wp_skip hrun ?_
          rw [hput]
          refine ih _ χ _ _ ⟨by simp [hl.size], fun k h1 h2 => ?_, fun k h1 => ?_⟩ (hc.set hl.size r1 r3) ?_ ?_ hx
          · rw [lf_set (by rw [hl.size]; exact r1)]; split
            · rfl
            · exact hl.below k h1 h2
          · rw [lf_set (by rw [hl.size]; exact r1), if_neg (by omega)]; exact hl.above k h1
          · have := unl_set (l := listed.toList) (i := i) (by rw [Array.getElem?_toList, lf_get hl.size r1, r2])
            rw [Array.toList_setIfInBounds]
            omega
          · exact hgd.cast (fun k => by
              rw [lf_set (by rw [hl.size]; exact r1)]
              constructor
              · intro hk
                split at hk
                · rename_i h; exact .inr (by rw [h, hpi])
                · exact .inl hk
              · rintro (hk | hk)
                · split
                  · rfl
                  · exact hk
                · rw [if_pos (by rw [hk, hpi])])
      · rw [h1] at hgs
        refine .inr ⟨hgs, next undef w χ ?_⟩
        rw [h2]
        exact Step.pure hgm ⟨#[], rfl, trivial⟩

end Go.Sx

namespace Go.Sx
open Go

theorem runPhase_vcs : ∀ {its : List PI} {p : PI}, p ∈ its → ∀ y ∈ p.r.vcs, y ∈ vcsP its := by
  intro its
  induction its with
  | nil => intro p hp; cases hp
  | cons q l ih =>
    intro p hp y hy
    simp only [vcsP, List.mem_append]
    rcases List.mem_cons.1 hp with hp | hp
    · subst hp; exact .inl hy
    · exact .inr (ih hp y hy)

theorem gS.topDstS {X : Ctx} {χ : Chi} {a : Act} {w : World} {ops : Array Oper} : ∀ {l : List Nat} {s : AS}, gS X s χ a w → gS X { s with tm := topDst ops l s.tm } χ a w := by
  intro l
  induction l with
  | nil => intro s h; exact h
  | cons i l ih =>
    intro s h
    have e : ∀ tm, topDst ops (i :: l) tm = topDst ops l (match ops[i]? with | some o => (match o.dst with | some d => tm.set d (.pv (.one .top)) | none => tm) | none => tm) := fun _ => rfl
    rw [e]
    split
    · rename_i o ho
      split
      · rename_i d hd
        have h2 : gS X { s with tm := s.tm.set d (.pv (.one .top)) } χ a w := by
          refine { inv := h.inv, mem := h.mem, wf := ⟨fun x hx => ?_, h.wf.hp, h.wf.fs⟩, defers := h.defers, size := by simpa using h.size, tm := fun i av hi => ?_, hp := h.hp, dist := h.dist, fs := h.fs, iv := h.iv, gl := h.gl }
          · rcases List.mem_or_eq_of_mem_set hx with h1 | h1
            · exact h.wf.tm x h1
            · subst h1; exact Nat.zero_le _
          · simp only [List.getElem?_set] at hi
            split at hi
            · split at hi
              · cases hi; exact trivial
              · cases hi
            · exact h.tm i av hi
        exact ih h2
      · exact ih h
    · exact ih h

theorem hpDel_mem {b : Nat} : ∀ {l : List HE} {x : HE}, x ∈ hpDel b l → x ∈ l := by
  intro l
  induction l with
  | nil => intro x h; cases h
  | cons e l ih =>
    intro x h
    simp only [hpDel] at h
    cases hb : Nat.beq e.b b with
    | true => rw [hb] at h; exact List.mem_cons_of_mem _ h
    | false =>
      rw [hb] at h
      rcases List.mem_cons.1 h with h | h
      · subst h; simp
      · exact List.mem_cons_of_mem _ (ih h)

theorem hpDel_sub {b : Nat} : ∀ (l : List HE), (hpDel b l).Sublist l := by
  intro l
  induction l with
  | nil => exact .slnil
  | cons e l ih =>
    simp only [hpDel]
    cases Nat.beq e.b b with
    | true => exact List.sublist_cons_self _ _
    | false => exact ih.cons_cons _

theorem hpDel_ne {f : Nat → Nat} {b : Nat} : ∀ {l : List HE} {e : HE}, l.Pairwise (fun x y => f x.b ≠ f y.b) → hpFind b l = some e → ∀ x ∈ hpDel b l, f x.b ≠ f e.b := by
  intro l
  induction l with
  | nil => intro e _ h; cases h
  | cons a l ih =>
    intro e hp hf x hx
    rw [List.pairwise_cons] at hp
    simp only [hpFind] at hf
    simp only [hpDel] at hx
    cases hb : Nat.beq a.b b with
    | true =>
      rw [hb] at hf hx
      cases hf
      exact (hp.1 x hx).symm
    | false =>
      rw [hb] at hf hx
      rcases List.mem_cons.1 hx with hx | hx
      · subst hx; exact hp.1 e (hpFind_mem hf).1
      · exact ih hp.2 hf x hx

theorem gS.del {X : Ctx} {s : AS} {χ : Chi} {a : Act} {w : World} (h : gS X s χ a w) {b : Nat} {e : HE} (he : hpFind b s.hp = some e) : gS X { s with hp := hpDel b s.hp } χ a w ∧ ∀ x ∈ hpDel b s.hp, (χ.ρ x.b).toNat ≠ (χ.ρ e.b).toNat :=
  ⟨{ inv := h.inv, mem := h.mem, wf := ⟨h.wf.tm, fun x hx => h.wf.hp x (hpDel_mem hx), h.wf.fs⟩, defers := h.defers, size := h.size, tm := h.tm, hp := fun x hx => h.hp x (hpDel_mem hx), dist := h.dist.sublist (hpDel_sub _), fs := h.fs, iv := h.iv, gl := h.gl },
   hpDel_ne (f := fun i => (χ.ρ i).toNat) h.dist he⟩

theorem splitG_ok {X : Ctx} {s : AS} {χ : Chi} {a : Act} {w : World} (hg : gS X s χ a w) (ops : Array Oper) (i : Nat) : ∃ s' ∈ splitG ops i s, s'.nv = s.nv ∧ gS X s' χ a w := by
  have self : ∃ s' ∈ [s], s'.nv = s.nv ∧ gS X s' χ a w := ⟨s, by simp, rfl, hg⟩
  unfold splitG
  cases (rangeN 0 ops.size).any (guardedBy ops i) with
  | false => exact self
  | true =>
    simp only [cond_true]
    split
    · split
      · rename_i f _
        split
        · exact self
        · cases ht : Nat.ble f.top s.nv with
          | false => exact self
          | true =>
            simp only [cond_true]
            have ht : f.top ≤ s.nv := by simpa using ht
            cases hb : f.b χ.ρ with
            | true => exact ⟨_, by simp, AS.assume_nv _ _, hg.assume ((Fm.b_iff _ _).1 hb) ht⟩
            | false => exact ⟨s.assume f.neg, by simp, AS.assume_nv _ _, hg.assume ((Fm.b_iff _ _).1 (by rw [Fm.neg_b, hb]; rfl)) (Nat.le_trans (Fm.neg_top f) ht)⟩
      · exact self
    · exact self

theorem wpOp_then {P : Program} {ops : Array Oper} {Q : Exit → Act → World → Prop} {i : Nat} {K K' : Act → World → Prop} {a : Act} {w : World} (h : wpOp P ops (Exit.then K Q) i K' a w) : wpOp P ops Q i K' a w := by
  have hl : LetsOut (Exit.then K Q) → LetsOut Q := fun ⟨a, w, h⟩ => ⟨a, w, h⟩
  unfold wpOp at *
  split
  · rename_i h1; rw [h1] at h; exact h
  · rename_i o h1
    rw [h1] at h
    dsimp only at h
    split
    · rename_i hw
      rw [if_pos hw] at h
      rcases h with h | ⟨h2, h3⟩
      · refine .inl ?_
        unfold Oper.wp at *
        generalize (execOp a.eval o).run P w = r at *
        cases r with
        | ok n w' =>
          cases n <;> simp only [Oper.upon] at h ⊢ <;>
            first
              | exact h
              | exact Calls.mono h (fun e w'' he => by cases e <;> first | exact he | exact hl he)
        | halt x w' => cases x <;> simp only [Oper.upon] at h ⊢ <;> exact h
      · exact .inr ⟨h2, hl h3⟩
    · rename_i hw; rw [if_neg hw] at h; exact h

theorem execPhase_ok {env : Env} (hcon : ConOK env) {ops : Array Oper} (hlt : ∀ i, i < ops.size → ∀ d ∈ depsAt ops i, d < i) {X : Ctx} (hX : X.P = env.P) {Q : Exit → Act → World → Prop} {la hi : Nat} (b2 : la ≤ hi) (b3 : hi ≤ ops.size)
    (hbar : hi = ops.size ∨ (isBar ops hi = true ∧ ∀ j, la ≤ j → j < hi → ∃ r, (tabOf ops ops.size)[hi]? = some r ∧ j ∈ r)) {fuel : Nat} {listed : Array Bool} {χ : Chi} {a : Act} {w : World} (hl : Lst ops listed la la) (hu : unl listed.toList ≤ fuel)
    {s s' : AS} {v1 : List VC} (h1 : execPhase env ops (tabOf ops ops.size) s la hi = some (s', v1)) (hv : ∀ y ∈ v1, y.valid) (hg : gS X s χ a w)
    (cont : s.nv ≤ s'.nv → ∀ fuel' listed' χ' a' w', Lst ops listed' hi hi → unl listed'.toList ≤ fuel' → gS X s' χ' a' w' → Ext s.nv χ χ' → wpAny X.P .any ops Q fuel' listed' a' w') : wpAny X.P .any ops Q fuel listed a w := by
  -- one way of running a phase
  have key : ∀ (s1 : AS) (sd : Sd) (its : List PI), s1.nv = s.nv → gS X s1 χ a w → (∀ p ∈ sd, HEok X χ w p.2 ∧ p.2.top' ≤ s1.nv ∧ ∀ e' ∈ s1.hp, (χ.ρ e'.b).toNat ≠ (χ.ρ p.2.b).toNat) →
      runPhase env ops (tabOf ops ops.size) s1 sd (rangeN la (hi - la)) [] = some its → (nOK s1.nv its && (pwB its && its.all (fun p => topAt s1 p.dst))) = true →
      s' = foldP (fun _ => true) its s1 → v1 = vcsP its → wpAny X.P .any ops Q fuel listed a w := by
    intro s1 sd its hs1 hg1 hsd hits hk hs' hv1
    subst hs'; subst hv1
    simp only [Bool.and_eq_true, List.all_eq_true] at hk
    obtain ⟨k1, k2, k3⟩ := hk
    obtain ⟨new, e1, e2, e3, e4⟩ := runPhase_ok hits
    simp only [List.nil_append] at e1
    have e1 := e1.symm
    subst e1
    refine many_ok hcon hlt b3 b2 hbar e2 e3 e4 k1 k2 k3 (fun p hp y hy => hv y (runPhase_vcs hp y hy)) hX (χ0 := χ) ?_ fuel listed χ a w ⟨hl.size, hl.below, fun i hi' => hl.above i (by omega)⟩ (LC.of_lst hl hlt) hu ?_ (Ext.refl _ _)
    · intro fuel' listed' χ' a' w' hl' hu' hg' hx'
      have hnv : (foldP (fun _ => true) new s1).nv = s.nv + (new.map fun p => p.r.ivs.length).sum := foldP_nv (n := s.nv) hs1 (by rw [← hs1]; exact k1)
      exact cont (by rw [hnv]; exact Nat.le_add_right _ _) fuel' listed' χ' a' w' hl' hu' hg' (by rw [← hs1]; exact hx')
    · have hnot : ∀ p ∈ new, ¬ lf listed p.i = true := by
        intro p hp hlp
        have : p.i ∈ rangeN la (hi - la) := by rw [← e2]; exact List.mem_map_of_mem hp
        rw [mem_rangeN] at this
        rw [hl.above _ this.1] at hlp; cases hlp
      exact ⟨hg1, fun p hp h => absurd h (hnot p hp), fun p hp h => absurd h (hnot p hp), fun p hp h => absurd h (hnot p hp), fun i e hsd' _ => by
        obtain ⟨z1, z2, z3⟩ := hsd (i, e) (by rw [hsd']; rfl)
        exact ⟨z1, z2, z3, fun p hp h => absurd h (hnot p hp)⟩⟩
  have hg0 : gS X { s with tm := topDst ops (rangeN la (hi - la)) s.tm } χ a w := hg.topDstS
  unfold execPhase at h1
  dsimp only at h1
  split at h1
  · rename_i its hits
    cases hk : (nOK ({ s with tm := topDst ops (rangeN la (hi - la)) s.tm } : AS).nv its && (pwB its && its.all (fun p => topAt { s with tm := topDst ops (rangeN la (hi - la)) s.tm } p.dst))) with
    | false => rw [hk] at h1; cases h1
    | true =>
      rw [hk] at h1
      simp only [cond_true, Option.some.injEq, Prod.mk.injEq] at h1
      exact key { s with tm := topDst ops (rangeN la (hi - la)) s.tm } none its rfl hg0 (fun p hp => nomatch hp) hits hk h1.1.symm h1.2.symm
  · split at h1
    rotate_left
    · cases h1
    rename_i i b hfs
    split at h1
    rotate_left
    · cases h1
    rename_i e he
    split at h1
    rotate_left
    · cases h1
    rename_i its hits
    cases hk : (nOK ({ s with tm := topDst ops (rangeN la (hi - la)) s.tm, hp := hpDel b s.hp } : AS).nv its && (pwB its && its.all (fun p => topAt { s with tm := topDst ops (rangeN la (hi - la)) s.tm, hp := hpDel b s.hp } p.dst))) with
    | false => rw [hk] at h1; cases h1
    | true =>
      rw [hk] at h1
      simp only [cond_true, Option.some.injEq, Prod.mk.injEq] at h1
      obtain ⟨d1, d2⟩ := hg0.del he
      refine key { s with tm := topDst ops (rangeN la (hi - la)) s.tm, hp := hpDel b s.hp } (some (i, e)) its rfl d1 (fun p hp => ?_) hits hk h1.1.symm h1.2.symm
      cases hp
      exact ⟨hg0.hp e (hpFind_mem he).1, hg0.wf.hp e (hpFind_mem he).1, d2⟩

theorem execMany_ok {env : Env} (hcon : ConOK env) {ops : Array Oper} (hlt : ∀ i, i < ops.size → ∀ d ∈ depsAt ops i, d < i) {X : Ctx} (hX : X.P = env.P) {Q : Exit → Act → World → Prop} {la hi : Nat} (b2 : la ≤ hi) (b3 : hi ≤ ops.size)
    (hbar : hi = ops.size ∨ (isBar ops hi = true ∧ ∀ j, la ≤ j → j < hi → ∃ r, (tabOf ops ops.size)[hi]? = some r ∧ j ∈ r)) {fuel : Nat} {listed : Array Bool} {χ : Chi} {a : Act} {w : World} (hl : Lst ops listed la la) (hu : unl listed.toList ≤ fuel) : ∀ {n : Nat} {s : AS} {ss : List AS} {v1 : List VC},
    execMany env ops (tabOf ops ops.size) la hi n s = some (ss, v1) → (∀ y ∈ v1, y.valid) → gS X s χ a w →
    (∀ s' ∈ ss, s.nv ≤ s'.nv → ∀ fuel' listed' χ' a' w', Lst ops listed' hi hi → unl listed'.toList ≤ fuel' → gS X s' χ' a' w' → Ext s.nv χ χ' → wpAny X.P .any ops Q fuel' listed' a' w') → wpAny X.P .any ops Q fuel listed a w := by
  intro n
  induction n with
  | zero =>
    intro s ss v1 h hv hg cont
    simp only [execMany] at h
    split at h
    rotate_left
    · cases h
    rename_i s' v h1
    cases h
    exact execPhase_ok hcon hlt hX b2 b3 hbar hl hu h1 hv hg (cont s' (by simp))
  | succ n ih =>
    intro s ss v1 h hv hg cont
    simp only [execMany] at h
    split at h
    · rename_i s' v h1
      cases h
      exact execPhase_ok hcon hlt hX b2 b3 hbar hl hu h1 hv hg (cont s' (by simp))
    · split at h
      rotate_left
      · cases h
      rename_i f _
      cases ht : Nat.ble f.top s.nv with
      | false => rw [ht] at h; cases h
      | true =>
        rw [ht] at h
        simp only [cond_true] at h
        have ht : f.top ≤ s.nv := by simpa using ht
        split at h
        rotate_left
        · cases h
        rename_i s1 v2 s2 v3 h1 h2
        cases h
        have ha : ∀ g, (s.assume g).nv = s.nv := fun g => AS.assume_nv _ _
        cases hb : f.b χ.ρ with
        | true =>
          refine ih h1 (fun y hy => hv y (by simp [hy])) (hg.assume ((Fm.b_iff _ _).1 hb) ht) ?_
          rw [ha]
          exact fun s' hs' => cont s' (by simp [hs'])
        | false =>
          refine ih h2 (fun y hy => hv y (by simp [hy])) (hg.assume ((Fm.b_iff _ _).1 (by rw [Fm.neg_b, hb]; rfl)) (Nat.le_trans (Fm.neg_top f) ht)) ?_
          rw [ha]
          exact fun s' hs' => cont s' (by simp [hs'])

theorem segs_ok {env : Env} {ex : Nat → Nat → Code → AS → Res} (hex : ExOK env ex) (hcon : ConOK env) {ops : Array Oper} (hlt : ∀ i, i < ops.size → ∀ d ∈ depsAt ops i, d < i) : ∀ {segs : List Seg} {lo : Nat} {s : AS} {ss : List AS} {vcs : List VC},
    segsB ops (tabOf ops ops.size) segs lo = true → execSegs env ex ops (tabOf ops ops.size) segs s = some (ss, vcs) → ∀ {X : Ctx}, X.P = env.P → (∀ y ∈ vcs, y.valid) → ∀ {fuel : Nat} {listed : Array Bool} {χ : Chi} {a : Act} {w : World}, Lst ops listed lo lo → unl listed.toList ≤ fuel → gS X s χ a w →
    ∀ {Q : Exit → Act → World → Prop}, (∀ a' w', PostS X ss s.nv χ a' w' → Q .normal a' w') → wpAny X.P .any ops Q fuel listed a w := by
  intro segs
  induction segs with
  | nil =>
    intro lo s ss vcs hb h X hX hv fuel listed χ a w hl hu hg Q hQ
    simp only [execSegs, Option.some.injEq, Prod.mk.injEq] at h
    obtain ⟨rfl, rfl⟩ := h
    have hlo : lo = ops.size := by simpa [segsB] using hb
    have hq : Q .normal a w := hQ _ _ ⟨s, by simp, Nat.le_refl _, χ, Ext.refl _ _, hg⟩
    have hr : Region.ready .any ops listed = [] := by
      cases hr : Region.ready .any ops listed with
      | nil => rfl
      | cons x xs =>
        have : x ∈ Region.ready .any ops listed := by rw [hr]; simp
        obtain ⟨h1, h2, _⟩ := (mem_ready hl.size).1 this
        rw [hl.below x (by omega) h1] at h2; cases h2
    cases fuel with
    | zero => exact ⟨hr, hq⟩
    | succ f => exact ⟨fun _ => hq, fun i hi => by rw [hr] at hi; cases hi⟩
  | cons sg segs ih =>
    intro lo s ss vcs hb h X hX hv fuel listed χ a w hl hu hg Q hQ
    cases sg with
    | one i =>
      simp only [segsB, Bool.and_eq_true] at hb
      obtain ⟨b1, b2, b3, b4⟩ := hb
      have b1 : i = lo := by simpa using b1
      subst b1
      have b2 : i < ops.size := by simpa using b2
      simp only [execSegs] at h
      split at h
      rotate_left
      · cases h
      rename_i ss1 v1 h1
      split at h
      rotate_left
      · cases h
      rename_i r v2 h2
      cases h
      have hli : lf listed i = false := hl.above i (Nat.le_refl _)
      have hpos := unl_pos (l := listed.toList) (i := i) (by rw [Array.getElem?_toList, lf_get hl.size b2, hli])
      cases fuel with
      | zero => omega
      | succ fuel =>
        have hready : i ∈ Region.ready .any ops listed := by
          rw [mem_ready hl.size]
          exact ⟨b2, hli, fun d hd => hl.below d (hlt i b2 d hd) (by have := hlt i b2 d hd; omega)⟩
        refine ⟨fun he => (by rw [he] at hready; cases hready), fun j hj => ?_⟩
        have hji : j = i := by
          obtain ⟨j1, j2, j3⟩ := (mem_ready hl.size).1 hj
          rcases Nat.lt_trichotomy j i with h | h | h
          · rw [hl.below j h j1] at j2; cases j2
          · exact h
          · obtain ⟨d, hd, hdl⟩ := isBar_ok b3 hl.size h hj
            rw [hl.above d hd] at hdl; cases hdl
        subst hji
        have hops := execOps_ok hex hcon h1 hX (fun y hy => hv y (by simp [hy])) hg (Q := Exit.then (wpAny X.P .any ops Q fuel (listed.setIfInBounds j true)) Q) ?_
        · rw [wpOps_cons] at hops
          exact wpOp_then hops
        · rintro a' w' ⟨st, hst, hnl, χ1, hx1, hg1⟩
          show wpAny X.P .any ops Q fuel (listed.setIfInBounds j true) a' w'
          obtain ⟨st2, hst2, hnv2, hg2⟩ := splitG_ok hg1 ops j
          obtain ⟨r', v', k1, k2, k3⟩ := bindS_mem h2 st2 (by
            rw [List.mem_flatten]
            exact ⟨splitG ops j st, List.mem_map_of_mem hst, hst2⟩)
          refine ih b4 k1 hX (fun y hy => hv y (by simp [k3 y hy])) ⟨by simp [hl.size], fun k q1 q2 => ?_, fun k q1 => ?_⟩ ?_ hg2 fun a3 w3 hp => hQ _ _ (hp.trans hx1 (by rw [hnv2]; exact hnl) k2)
          · rw [lf_set (by rw [hl.size]; exact b2)]; split
            · rfl
            · exact hl.below k (by omega) q2
          · rw [lf_set (by rw [hl.size]; exact b2), if_neg (by omega)]; exact hl.above k (by omega)
          · have := unl_set (l := listed.toList) (i := j) (by rw [Array.getElem?_toList, lf_get hl.size b2, hli])
            rw [Array.toList_setIfInBounds]
            omega
    | many la hi =>
      simp only [segsB, Bool.and_eq_true, Bool.or_eq_true, Nat.ble_eq] at hb
      obtain ⟨b1, b2, b3, b4, b5⟩ := hb
      have b1 : la = lo := by simpa using b1
      subst b1
      simp only [execSegs] at h
      split at h
      rotate_left
      · cases h
      rename_i ss1 v1 h1
      split at h
      rotate_left
      · cases h
      rename_i r v2 h2
      cases h
      have hbar : hi = ops.size ∨ (isBar ops hi = true ∧ ∀ j, la ≤ j → j < hi → ∃ r, (tabOf ops ops.size)[hi]? = some r ∧ j ∈ r) := by
        rcases b4 with b4 | ⟨b4, b6⟩
        · exact .inl (by simpa using b4)
        · refine .inr ⟨b4, fun j j1 j2 => ?_⟩
          rw [List.all_eq_true] at b6
          have := b6 j (by rw [mem_rangeN]; omega)
          split at this
          · rename_i r hr; exact ⟨r, hr, nmem_mem.1 this⟩
          · cases this
      refine execMany_ok hcon hlt hX b2 b3 hbar hl hu h1 (fun y hy => hv y (by simp [hy])) hg fun s' hs' hnv fuel' listed' χ' a' w' hl' hu' hg' hx' => ?_
      obtain ⟨r', v', k1, k2, k3⟩ := bindS_mem h2 s' hs'
      exact ih b5 k1 hX (fun y hy => hv y (by simp [k3 y hy])) hl' hu' hg' fun a3 w3 hp => hQ _ _ (hp.trans hx' hnv k2)

theorem drawW_ok {env : Env} {ex : Nat → Nat → Code → AS → Res} (hex : ExOK env ex) (hcon : ConOK env) {ops : Array Oper} {s : AS} {bs : List Nat} {ss : List AS} {vcs : List VC} (h : drawW env ex ops (tabOf ops ops.size) (segsOf ops (tabOf ops ops.size) ops.size 0) s bs = some (ss, vcs)) {X : Ctx} (hX : X.P = env.P)
    (hv : ∀ y ∈ vcs, y.valid) {χ : Chi} {a : Act} {w : World} (hg : gS X s χ a w) {Q : Exit → Act → World → Prop} (hQ : ∀ a' w', PostS X ss s.nv χ a' w' → Q .normal a' w')
    (hb1 : depsLt ops ops.size = true) (hb2 : segsB ops (tabOf ops ops.size) (segsOf ops (tabOf ops ops.size) ops.size 0) 0 = true) (hlst : Lst ops (Array.replicate ops.size false) 0 0) (hun : unl (Array.replicate ops.size false).toList ≤ ops.size) :
    wpAny X.P .any ops Q ops.size (Array.replicate ops.size false) a w.drew := by
  unfold drawW at h
  split at h
  rotate_left
  · cases h
  rename_i s' v1 h1
  split at h
  rotate_left
  · cases h
  rename_i ss' v2 h2
  cases h
  obtain ⟨χ1, e1, g1, n1⟩ := weakenL_ok (X := X) (by rw [hX]; exact h1) (fun y hy => hv y (by simp [hy])) hg
  exact segs_ok hex hcon (depsLt_ok hb1) hb2 h2 hX (fun y hy => hv y (by simp [hy])) hlst hun g1.drew fun a' w' hp => hQ _ _ (hp.trans e1 (by rw [n1]; exact Nat.le_refl _) fun x hx => hx)

theorem execDraw_ok {env : Env} {ex : Nat → Nat → Code → AS → Res} (hex : ExOK env ex) (hcon : ConOK env) {ops : Array Oper} {s : AS} {ss : List AS} {vcs : List VC} (h : execDraw env ex ops s = some (ss, vcs)) {X : Ctx} (hX : X.P = env.P)
    (hm : env.P.follows .mixedOrders = true) (hv : ∀ y ∈ vcs, y.valid) {χ : Chi} {a : Act} {w : World} (hg : gS X s χ a w) {id : Nat} {Q : Exit → Act → World → Prop} (hQ : ∀ a' w', PostS X ss s.nv χ a' w' → Q .normal a' w') : (Code.region id ops true).wp X.P Q a w := by
  unfold execDraw at h
  dsimp only at h
  cases hb : (depsLt ops ops.size && segsB ops (tabOf ops ops.size) (segsOf ops (tabOf ops ops.size) ops.size 0) 0) with
  | false => rw [hb] at h; cases h
  | true =>
    rw [hb] at h
    simp only [cond_true] at h
    simp only [Bool.and_eq_true] at hb
    have hlst : Lst ops (Array.replicate ops.size false) 0 0 := ⟨by simp, fun i h1 => absurd h1 (Nat.not_lt_zero i), fun i _ => by
      simp only [lf, Array.getD_eq_getD_getElem?, Array.getElem?_replicate]; split <;> rfl⟩
    have hun : unl (Array.replicate ops.size false).toList ≤ ops.size := by rw [Array.toList_replicate, unl_rep]; exact Nat.le_refl _
    refine wp_region_any (by rw [hX]; exact hm) ?_
    split at h
    · rename_i r hr
      cases h
      exact segs_ok hex hcon (depsLt_ok hb.1) hb.2 hr hX hv hlst hun hg.drew hQ
    · split at h
      · rename_i r hr
        cases h
        exact drawW_ok hex hcon hr hX hv hg hQ hb.1 hb.2 hlst hun
      · exact drawW_ok hex hcon h hX hv hg hQ hb.1 hb.2 hlst hun

end Go.Sx

namespace Go.Sx
open Go

def BodyOK (env : Env) (body : Code) (f : AS → Res) : Prop :=
  ∀ s outs vcs, f s = some (outs, vcs) → ∀ X : Ctx, X.P = env.P → (∀ y ∈ vcs, y.valid) → ∀ χ a w, gS X s χ a w → body.wp X.P (Post X outs s.nv χ) a w

theorem bindR_mem {f : AS → Res} : ∀ {l : List (Ex × AS)} {r : List (Ex × AS)} {v : List VC}, bindR f l = some (r, v) → ∀ o ∈ l,
    (o.1 = .nrm → ∃ r' v', f o.2 = some (r', v') ∧ (∀ x ∈ r', x ∈ r) ∧ ∀ y ∈ v', y ∈ v) ∧ (o.1 ≠ .nrm → o ∈ r) := by
  intro l
  induction l with
  | nil => intro r v _ s hs; cases hs
  | cons a l ih =>
    intro r v h o ho
    obtain ⟨e, st⟩ := a
    cases e with
    | nrm =>
      simp only [bindR] at h
      split at h
      · rename_i r1 v1 r2 v2 h1 h2
        cases h
        rcases List.mem_cons.1 ho with rfl | ho
        · exact ⟨fun _ => ⟨r1, v1, h1, fun x hx => by simp [hx], fun y hy => by simp [hy]⟩, fun hne => absurd rfl hne⟩
        · obtain ⟨k1, k2⟩ := ih h2 o ho
          refine ⟨fun he => ?_, fun he => by simp [k2 he]⟩
          obtain ⟨r', v', q1, q2, q3⟩ := k1 he
          exact ⟨r', v', q1, fun x hx => by simp [q2 x hx], fun y hy => by simp [q3 y hy]⟩
      · cases h
    | ext i =>
      simp only [bindR] at h
      split at h
      · rename_i r2 v2 h2
        cases h
        rcases List.mem_cons.1 ho with rfl | ho
        · exact ⟨fun he => (nomatch he), fun _ => by simp⟩
        · obtain ⟨k1, k2⟩ := ih h2 o ho
          refine ⟨fun he => ?_, fun he => by simp [k2 he]⟩
          obtain ⟨r', v', q1, q2, q3⟩ := k1 he
          exact ⟨r', v', q1, fun x hx => by simp [q2 x hx], fun y hy => by simp [q3 y hy]⟩
      · cases h
    | ret =>
      simp only [bindR] at h
      split at h
      · rename_i r2 v2 h2
        cases h
        rcases List.mem_cons.1 ho with rfl | ho
        · exact ⟨fun he => (nomatch he), fun _ => by simp⟩
        · obtain ⟨k1, k2⟩ := ih h2 o ho
          refine ⟨fun he => ?_, fun he => by simp [k2 he]⟩
          obtain ⟨r', v', q1, q2, q3⟩ := k1 he
          exact ⟨r', v', q1, fun x hx => by simp [q2 x hx], fun y hy => by simp [q3 y hy]⟩
      · cases h

theorem Post.trans {X : Ctx} {ss rr : List (Ex × AS)} {n : Nat} {χ : Chi} {st : AS} {χ1 : Chi} {e : Exit} {a : Act} {w : World} (h : Post X ss st.nv χ1 e a w) (hx : Ext n χ χ1) (hn : n ≤ st.nv) (hm : ∀ x ∈ ss, x ∈ rr) : Post X rr n χ e a w := by
  obtain ⟨s, hs, he1, hl, χ', he, hg⟩ := h
  exact ⟨s, hm s hs, he1, Nat.le_trans hn hl, χ', hx.trans (he.mono hn), hg⟩

theorem unBlock_mem {id : Nat} : ∀ {l : List (Ex × AS)} {e : Ex} {s : AS}, (e, s) ∈ l → ((e = .ext id ∧ (.nrm, s) ∈ unBlock id l) ∨ (e ≠ .ext id ∧ (e, s) ∈ unBlock id l)) := by
  intro l
  induction l with
  | nil => intro e s h; cases h
  | cons x l ih =>
    intro e s h
    obtain ⟨e', s'⟩ := x
    rcases List.mem_cons.1 h with h | h
    · cases h
      cases e with
      | nrm => exact .inr ⟨by simp, by simp [unBlock]⟩
      | ret => exact .inr ⟨by simp, by simp [unBlock]⟩
      | ext i =>
        by_cases hi : i = id
        · subst hi; exact .inl ⟨rfl, by simp [unBlock]⟩
        · refine .inr ⟨by simpa using hi, ?_⟩
          have : Nat.beq i id = false := by cases hq : Nat.beq i id with | false => rfl | true => exact absurd (Nat.eq_of_beq_eq_true hq) hi
          simp [unBlock, this]
    · have hs : ∀ y, y ∈ unBlock id l → y ∈ unBlock id ((e', s') :: l) := by
        intro y hy
        cases e' <;> simp [unBlock, hy]
      rcases ih h with ⟨k1, k2⟩ | ⟨k1, k2⟩
      · exact .inl ⟨k1, hs _ k2⟩
      · exact .inr ⟨k1, hs _ k2⟩

theorem notNrm_mem : ∀ {l : List (Ex × AS)} {o : Ex × AS}, o ∈ l → o.1 ≠ .nrm → o ∈ notNrm l := by
  intro l
  induction l with
  | nil => intro o h; cases h
  | cons x l ih =>
    intro o h hne
    obtain ⟨e, s⟩ := x
    rcases List.mem_cons.1 h with rfl | h
    · cases e with
      | nrm => exact absurd rfl hne
      | _ => simp [notNrm]
    · have := ih h hne
      cases e <;> simp [notNrm, this]

theorem backs_mem {an : LoopAnn} {sinv : AS} {base : Nat} : ∀ {outs : List (Ex × AS)} {mo : Option T} {m : T} {vs : List VC}, backs an sinv base outs mo = some (m, vs) →
    (∀ m0, mo = some m0 → m = m0) ∧ ∀ sb, (Ex.nrm, sb) ∈ outs → ∃ l v1, subsume sb sinv (mkθ base l) = some v1 ∧ (∀ y ∈ v1, y ∈ vs) ∧ (∀ y ∈ sb.need (.le (.c 1) m), y ∈ vs) ∧ (∀ y ∈ sb.need (.lt (m.sub' (mkθ base l)) m), y ∈ vs) := by
  intro outs
  induction outs with
  | nil =>
    intro mo m vs h
    cases mo with
    | none => exact ⟨fun _ h => (nomatch h), fun _ h => (nomatch h)⟩
    | some m' => simp only [backs, Option.some.injEq, Prod.mk.injEq] at h; exact ⟨fun m0 h0 => Option.some.inj (h0 ▸ congrArg some h.1.symm), fun _ h => nomatch h⟩
  | cons x l ih =>
    intro mo m vs h
    obtain ⟨e, st⟩ := x
    cases e with
    | nrm =>
      simp only [backs] at h
      split at h
      rotate_left
      · cases h
      rename_i m1 hm1
      split at h
      rotate_left
      · cases h
      rename_i v1 m' v2 h1 h2
      cases hb : m'.beq m1 with
      | false => rw [hb] at h; cases h
      | true =>
        rw [hb] at h
        simp only [cond_true, Option.some.injEq, Prod.mk.injEq] at h
        obtain ⟨rfl, rfl⟩ := h
        obtain ⟨k1, k2⟩ := ih h2
        have e1 : m' = m1 := k1 _ rfl
        refine ⟨fun m0 h0 => by subst h0; simpa using hm1.symm, fun sb hsb => ?_⟩
        rcases List.mem_cons.1 hsb with hsb | hsb
        · cases hsb
          exact ⟨_, v1, h1, fun y hy => by simp [hy], fun y hy => by simp [hy], fun y hy => by simp [hy]⟩
        · obtain ⟨lx, v, q1, q2, q3, q4⟩ := k2 sb hsb
          subst e1
          exact ⟨lx, v, q1, fun y hy => by simp [q2 y hy], fun y hy => by simp [q3 y hy], fun y hy => by simp [q4 y hy]⟩
    | ext i =>
      simp only [backs] at h
      obtain ⟨k1, k2⟩ := ih h
      refine ⟨k1, fun sb hsb => ?_⟩
      rcases List.mem_cons.1 hsb with hsb | hsb
      · cases hsb
      · exact k2 sb hsb
    | ret =>
      simp only [backs] at h
      obtain ⟨k1, k2⟩ := ih h
      refine ⟨k1, fun sb hsb => ?_⟩
      rcases List.mem_cons.1 hsb with hsb | hsb
      · cases hsb
      · exact k2 sb hsb

theorem findInv_ex {P : Program} {ex : AS → Res} {fn : Func} {s : AS} {body : Code} {an : LoopAnn} : ∀ {n : Nat} {hg : HG} {wd : List Nat} {sinv : AS} {outs : List (Ex × AS)} {v : List VC}, findInv P ex fn s body an n hg wd = some (sinv, outs, v) → ex sinv = some (outs, v) := by
  intro n
  induction n with
  | zero => intro hg wd sinv outs v h; cases h
  | succ n ih =>
    intro hg wd sinv outs v h
    simp only [findInv] at h
    split at h
    rotate_left
    · cases h
    rename_i o1 v1 h1
    split at h
    · split at h
      · cases h; exact h1
      · split at h
        · rename_i r hr; cases h; exact ih hr
        · cases h; exact h1
    · exact ih h

theorem execLoop_ok {env : Env} {body : Code} {f : AS → Res} (hf : BodyOK env body f) {fid bid : Nat} {s : AS} {outs : List (Ex × AS)} {vcs : List VC} (h : execLoop env f fid bid body s = some (outs, vcs)) {X : Ctx} (hX : X.P = env.P)
    (hv : ∀ y ∈ vcs, y.valid) {χ : Chi} {a : Act} {w : World} (hg : gS X s χ a w) : (Code.loop body).wp X.P (Post X outs s.nv χ) a w := by
  unfold execLoop at h
  split at h
  rotate_left
  · cases h
  rename_i fn _
  dsimp only at h
  split at h
  rotate_left
  · cases h
  rename_i sinv o1 v1 h1
  split at h
  rotate_left
  · cases h
  rename_i v0 m v2 h0 h2
  cases hb : (Nat.ble m.top sinv.nv && Nat.ble s.nv sinv.nv) with
  | false => rw [hb] at h; cases h
  | true =>
  rw [hb] at h
  simp only [cond_true, Option.some.injEq, Prod.mk.injEq] at h
  obtain ⟨rfl, rfl⟩ := h
  simp only [Bool.and_eq_true, Nat.ble_eq] at hb
  obtain ⟨b1, b2⟩ := hb
  have hex := findInv_ex h1
  have hbk := (backs_mem h2).2
  have hg0 := subsume_ok hg h0 (fun y hy => hv y (by simp [hy]))
  refine wp_loop_ghost (fun n a w => ∃ χ', Ext s.nv χ χ' ∧ gS X sinv χ' a w ∧ (m.ev χ'.ρ).toNat = n) _ ⟨_, mkθ_ext χ s.nv _, hg0, rfl⟩ ?_
  rintro n a1 w1 ⟨χ1, hx1, hg1, hn1⟩
  refine wp_mono (hf _ _ _ hex X hX (fun y hy => hv y (by simp [hy])) χ1 a1 w1 hg1) ?_
  rintro e a2 w2 ⟨o, ho, he, hl, χ2, hx2, hg2⟩
  have other : o.1 ≠ .nrm → Post X (notNrm o1) s.nv χ e a2 w2 := fun hne =>
    ⟨o, notNrm_mem ho hne, he, Nat.le_trans b2 hl, χ2, hx1.trans (hx2.mono b2), hg2⟩
  cases e with
  | normal =>
    cases ho1 : o.1 with
    | ext i => rw [ho1] at he; exact he.elim
    | ret => rw [ho1] at he; exact he.elim
    | nrm =>
      obtain ⟨l, v, q1, q2, q3, q4⟩ := hbk o.2 (by rw [← ho1]; exact ho)
      have hg3 := subsume_ok hg2 q1 (fun y hy => hv y (by simp [q2 y hy]))
      have p1 := AS.need_ok hg2 (g := .le (.c 1) m) (fun y hy => hv y (by simp [q3 y hy]))
      have p2 := AS.need_ok hg2 (g := .lt (m.sub' (mkθ s.nv l)) m) (fun y hy => hv y (by simp [q4 y hy]))
      simp only [Fm.holds, T.ev_sub', T.ev] at p1 p2
      have p3 : m.ev χ2.ρ = m.ev χ1.ρ := T.ev_congr hx2.ρ m b1
      refine ⟨_, ?_, _, (hx1.trans (hx2.mono b2)).trans (mkθ_ext χ2 s.nv l), hg3, rfl⟩
      have p4 : m.ev (χ2.withρ (sval χ2.ρ (mkθ s.nv l))).ρ < m.ev χ2.ρ := p2
      omega
  | exit id => exact other (by intro h; rw [h] at he; exact he.elim)
  | ret => exact other (by intro h; rw [h] at he; exact he.elim)
  | goto l => cases ho1 : o.1 <;> rw [ho1] at he <;> exact he.elim
  | panic l => cases ho1 : o.1 <;> rw [ho1] at he <;> exact he.elim
  | outgrown => cases ho1 : o.1 <;> rw [ho1] at he <;> exact he.elim

theorem execLoopW_ok {env : Env} {body : Code} {f : AS → Res} (hf : BodyOK env body f) {fid bid : Nat} : ∀ {n : Nat} {s : AS} {outs : List (Ex × AS)} {vcs : List VC}, execLoopW env f fid bid body n s = some (outs, vcs) → ∀ {X : Ctx}, X.P = env.P →
    (∀ y ∈ vcs, y.valid) → ∀ {χ : Chi} {a : Act} {w : World}, gS X s χ a w → (Code.loop body).wp X.P (Post X outs s.nv χ) a w := by
  intro n
  induction n with
  | zero => intro s outs vcs h; cases h
  | succ n ih =>
    intro s outs vcs h X hX hv χ a w hg
    simp only [execLoopW] at h
    split at h
    · exact execLoop_ok hf h hX hv hg
    · split at h
      rotate_left
      · cases h
      rename_i s' v h1
      split at h
      rotate_left
      · cases h
      rename_i o v2 h2
      cases h
      obtain ⟨χ1, e1, g1, n1⟩ := weakenL_ok (X := X) (by rw [hX]; exact h1) (fun y hy => hv y (by simp [hy])) hg
      exact wp_mono (ih h2 hX (fun y hy => hv y (by simp [hy])) g1) fun e a3 w3 hp => hp.trans e1 (by rw [n1]; exact Nat.le_refl _) fun x hx => hx

theorem exitTo_len {id : Nat} : ∀ {k k' : List Item}, exitTo id k = some k' → k'.length ≤ k.length := by
  intro k
  induction k with
  | nil => intro k' h; cases h
  | cons x k ih =>
    intro k' h
    cases x with
    | inBlock i =>
      simp only [exitTo] at h
      split at h
      · cases h; simp
      · have := ih h; simp; omega
    | _ => have := ih (show exitTo id k = some k' from h); simp; omega

theorem wp_loop_peel {P : Program} {Q : Exit → Act → World → Prop} {a : Act} {w : World} {c : Code} (hQ : ∀ e a w, Q e a w → e = .normal ∨ (∃ id, e = .exit id) ∨ e = .ret)
    (h : c.wp P (Exit.then (fun a w => (Code.loop c).wp P Q a w) Q) a w) : (Code.loop c).wp P Q a w := by
  intro b k cs
  obtain ⟨e, a₁, w₁, hq, harr⟩ := h b (.inLoop c :: k) cs
  have other : Q e a₁ w₁ → e ≠ .normal → Arrives P (lone (b.at a (.code c :: .inLoop c :: k)) cs w) b (.inLoop c :: k) cs e a₁ w₁ → ∃ e a' w', Q e a' w' ∧ Arrives P (lone (b.at a (.code (.loop c) :: k)) cs w) b k cs e a' w' :=
    fun hq hne harr => ⟨e, a₁, w₁, hq, .of_steps (.one step_loop) (.pass (x := .inLoop c) rfl (fun _ _ => .inl hne) harr)⟩
  cases e with
  | normal =>
    obtain ⟨e₂, a₂, w₂, hq₂, harr₂⟩ := hq b k cs
    refine ⟨e₂, a₂, w₂, hq₂, .of_steps (Steps.trans (.one step_loop) (Steps.trans harr (.one step_inLoop))) ?_⟩
    have back : ∀ {t : Machine}, t ≠ lone (b.at a₁ (.code (.loop c) :: k)) cs w₁ → Steps P (lone (b.at a₁ (.code (.loop c) :: k)) cs w₁) t → Steps P (lone (b.at a₁ (.code c :: .inLoop c :: k)) cs w₁) t := by
      rintro t hne ⟨n, hn⟩
      cases n with
      | zero => exact absurd (by simpa [runN] using hn.symm) hne
      | succ n => exact ⟨n, by simpa [runN, step_loop] using hn⟩
    have todo_ne : ∀ {a' : Act} {w' : World} {k' : List Item}, k'.length ≤ k.length → lone (b.at a' k') cs w' ≠ lone (b.at a₁ (.code (.loop c) :: k)) cs w₁ := by
      intro a' w' k' hk he
      simp only [lone, Frame.at] at he
      have := congrArg List.length (show k' = .code (.loop c) :: k by simp_all)
      simp at this; omega
    rcases hQ _ _ _ hq₂ with rfl | ⟨id, rfl⟩ | rfl
    · exact back (todo_ne (Nat.le_refl _)) harr₂
    · exact fun k' hk => back (todo_ne (exitTo_len hk)) (harr₂ k' hk)
    · obtain ⟨todo, hs⟩ := harr₂
      exact ⟨todo, back (by intro he; simp [lone, Frame.at] at he) hs⟩
  | exit id => exact other hq (by simp) harr
  | goto l => exact other hq (by simp) harr
  | ret => exact other hq (by simp) harr
  | panic ch => exact other hq (by simp) harr
  | outgrown => exact other hq (by simp) harr

theorem Post.exits {X : Ctx} {outs : List (Ex × AS)} {n : Nat} {χ : Chi} : ∀ e a w, Post X outs n χ e a w → e = .normal ∨ (∃ id, e = .exit id) ∨ e = .ret := by
  rintro e a w ⟨o, _, he, _⟩
  obtain ⟨x, s⟩ := o
  cases e with
  | normal => exact .inl rfl
  | exit id => exact .inr (.inl ⟨id, rfl⟩)
  | ret => exact .inr (.inr rfl)
  | goto l => cases x <;> exact he.elim
  | panic l => cases x <;> exact he.elim
  | outgrown => cases x <;> exact he.elim

theorem execLoopP_ok {env : Env} {body : Code} {f : AS → Res} (hf : BodyOK env body f) {fid bid : Nat} : ∀ {n : Nat} {s : AS} {outs : List (Ex × AS)} {vcs : List VC}, execLoopP env f fid bid body n s = some (outs, vcs) → ∀ {X : Ctx}, X.P = env.P →
    (∀ y ∈ vcs, y.valid) → ∀ {χ : Chi} {a : Act} {w : World}, gS X s χ a w → (Code.loop body).wp X.P (Post X outs s.nv χ) a w := by
  intro n
  induction n with
  | zero => intro s outs vcs h X hX hv χ a w hg; exact execLoopW_ok hf h hX hv hg
  | succ n ih =>
    intro s outs vcs h X hX hv χ a w hg
    simp only [execLoopP] at h
    split at h
    rotate_left
    · cases h
    rename_i o1 v1 h1
    split at h
    rotate_left
    · cases h
    rename_i o2 v2 h2
    cases h
    refine wp_loop_peel Post.exits (wp_mono (hf _ _ _ h1 X hX (fun y hy => hv y (by simp [hy])) χ a w hg) ?_)
    rintro e a2 w2 ⟨o, ho, he, hl, χ2, hx2, hg2⟩
    obtain ⟨k1, k2⟩ := bindR_mem h2 o ho
    have other : o.1 ≠ .nrm → Post X outs s.nv χ e a2 w2 := fun hne => ⟨o, k2 hne, he, hl, χ2, hx2, hg2⟩
    cases e with
    | normal =>
      cases ho1 : o.1 with
      | ext i => rw [ho1] at he; exact he.elim
      | ret => rw [ho1] at he; exact he.elim
      | nrm =>
        obtain ⟨r', v', q1, q2, q3⟩ := k1 ho1
        exact wp_mono (ih q1 hX (fun y hy => hv y (by simp [q3 y hy])) hg2) fun e a3 w3 hp => hp.trans hx2 hl q2
    | exit id => exact other (by intro h; rw [h] at he; exact he.elim)
    | ret => exact other (by intro h; rw [h] at he; exact he.elim)
    | goto l => cases ho1 : o.1 <;> rw [ho1] at he <;> exact he.elim
    | panic l => cases ho1 : o.1 <;> rw [ho1] at he <;> exact he.elim
    | outgrown => cases ho1 : o.1 <;> rw [ho1] at he <;> exact he.elim

theorem exec_ok {env : Env} (hcon : ConOK env) : ∀ n, ExOK env (exec env n) := by
  intro n
  induction n with
  | zero => intro fid bid c s outs vcs h; cases h
  | succ n ih =>
    intro fid bid c s outs vcs h X hX hv χ a w hg
    have self : ∀ {e : Ex} {e' : Exit}, e.is e' → Post X [(e, s)] s.nv χ e' a w := fun {e} {e'} he => ⟨(e, s), List.mem_singleton.2 rfl, he, Nat.le_refl _, χ, Ext.refl _ _, hg⟩
    cases c with
    | skip => simp only [exec, Option.some.injEq, Prod.mk.injEq] at h; obtain ⟨rfl, rfl⟩ := h; exact wp_skip (self trivial)
    | label l => simp only [exec, Option.some.injEq, Prod.mk.injEq] at h; obtain ⟨rfl, rfl⟩ := h; exact wp_label (self trivial)
    | exit id => simp only [exec, Option.some.injEq, Prod.mk.injEq] at h; obtain ⟨rfl, rfl⟩ := h; exact wp_exit (self rfl)
    | ret => simp only [exec, Option.some.injEq, Prod.mk.injEq] at h; obtain ⟨rfl, rfl⟩ := h; exact wp_ret (self trivial)
    | seq x y =>
      simp only [exec] at h
      split at h
      rotate_left
      · cases h
      rename_i o1 v1 h1
      split at h
      rotate_left
      · cases h
      rename_i o2 v2 h2
      cases h
      refine wp_seq (wp_mono (ih _ _ _ _ _ _ h1 X hX (fun y hy => hv y (by simp [hy])) χ a w hg) ?_)
      rintro e a2 w2 ⟨o, ho, he, hl, χ2, hx2, hg2⟩
      obtain ⟨k1, k2⟩ := bindR_mem h2 o ho
      have other : o.1 ≠ .nrm → Post X outs s.nv χ e a2 w2 := fun hne => ⟨o, k2 hne, he, hl, χ2, hx2, hg2⟩
      cases e with
      | normal =>
        cases ho1 : o.1 with
        | ext i => rw [ho1] at he; exact he.elim
        | ret => rw [ho1] at he; exact he.elim
        | nrm =>
          obtain ⟨r', v', q1, q2, q3⟩ := k1 ho1
          exact wp_mono (ih _ _ _ _ _ _ q1 X hX (fun y hy => hv y (by simp [q3 y hy])) χ2 a2 w2 hg2) fun e a3 w3 hp => hp.trans hx2 hl q2
      | exit id => exact other (by intro h; rw [h] at he; exact he.elim)
      | ret => exact other (by intro h; rw [h] at he; exact he.elim)
      | goto l => exact other (by intro h; rw [h] at he; exact he.elim)
      | panic l => exact other (by intro h; rw [h] at he; exact he.elim)
      | outgrown => exact other (by intro h; rw [h] at he; exact he.elim)
    | cond x c1 c2 =>
      simp only [exec] at h
      split at h
      rotate_left
      · cases h
      rename_i f hf
      have hx := s.osv_ok hg x
      rw [hf] at hx
      have hx : a.eval x = .bool (f.b χ.ρ) := hx
      split at h
      · rename_i hd
        have := AS.dec_ok hg hd
        rw [this] at hx
        exact wp_cond_true hx (ih _ _ _ _ _ _ h X hX hv χ a w hg)
      · rename_i hd
        have := AS.dec_ok hg hd
        rw [this] at hx
        exact wp_cond_false hx (ih _ _ _ _ _ _ h X hX hv χ a w hg)
      · cases ht : Nat.ble f.top s.nv with
        | false => rw [ht] at h; cases h
        | true =>
          rw [ht] at h
          have ht : f.top ≤ s.nv := by simpa using ht
          simp only [cond_true] at h
          split at h
          rotate_left
          · cases h
          rename_i o1 v1 o2 v2 h1 h2
          cases h
          refine wp_cond_split hx (fun hb => ?_) (fun hb => ?_)
          · exact wp_mono (ih _ _ _ _ _ _ h1 X hX (fun y hy => hv y (by simp [hy])) χ a w (hg.assume ((Fm.b_iff _ _).1 hb) ht)) fun e a3 w3 hp =>
              hp.trans (Ext.refl _ _) (by rw [AS.assume_nv]; exact Nat.le_refl _) fun x hx => by simp [hx]
          · exact wp_mono (ih _ _ _ _ _ _ h2 X hX (fun y hy => hv y (by simp [hy])) χ a w (hg.assume ((Fm.b_iff _ _).1 (by rw [Fm.neg_b, hb]; rfl)) (Nat.le_trans (Fm.neg_top f) ht))) fun e a3 w3 hp =>
              hp.trans (Ext.refl _ _) (by rw [AS.assume_nv]; exact Nat.le_refl _) fun x hx => by simp [hx]
    | block id b =>
      simp only [exec] at h
      split at h
      rotate_left
      · cases h
      rename_i o1 v1 h1
      cases h
      refine wp_block (wp_mono (ih _ _ _ _ _ _ h1 X hX hv χ a w hg) ?_)
      rintro e a2 w2 ⟨⟨e1, st⟩, ho, he, hl, χ2, hx2, hg2⟩
      have hm := unBlock_mem (id := id) ho
      cases e with
      | exit id' =>
        cases e1 with
        | nrm => exact he.elim
        | ret => exact he.elim
        | ext i =>
          have he : i = id' := he
          subst he
          simp only [Exit.inBlock]
          by_cases hi : i = id
          · subst hi
            rw [if_pos rfl]
            rcases hm with ⟨_, k⟩ | ⟨k, _⟩
            · exact ⟨_, k, trivial, hl, χ2, hx2, hg2⟩
            · exact absurd rfl k
          · rw [if_neg hi]
            rcases hm with ⟨k, _⟩ | ⟨_, k⟩
            · cases k; exact absurd rfl hi
            · exact ⟨_, k, rfl, hl, χ2, hx2, hg2⟩
      | normal =>
        rcases hm with ⟨k, _⟩ | ⟨_, k⟩
        · subst k; exact he.elim
        · exact ⟨_, k, he, hl, χ2, hx2, hg2⟩
      | ret =>
        rcases hm with ⟨k, _⟩ | ⟨_, k⟩
        · subst k; exact he.elim
        · exact ⟨_, k, he, hl, χ2, hx2, hg2⟩
      | goto l => cases e1 <;> exact he.elim
      | panic l => cases e1 <;> exact he.elim
      | outgrown => cases e1 <;> exact he.elim
    | loop b =>
      simp only [exec] at h
      exact execLoopP_ok (fun s outs vcs h X hX hv χ a w hg => ih _ _ _ _ _ _ h X hX hv χ a w hg) h hX hv hg
    | scope b =>
      simp only [exec] at h
      refine wp_scope_straight (wp_mono (ih _ _ _ _ _ _ h X hX hv χ a w hg) fun e a2 w2 hp => ?_)
      cases e with
      | goto l =>
        obtain ⟨⟨e1, st⟩, _, he, _⟩ := hp
        cases e1 <;> exact he.elim
      | _ => exact hp
    | region id ops draw =>
      simp only [exec] at h
      cases draw with
      | true =>
        simp only [cond_true] at h
        cases hm : env.P.follows .mixedOrders with
        | false => rw [hm] at h; cases h
        | true =>
          rw [hm] at h
          simp only [cond_true] at h
          split at h
          rotate_left
          · cases h
          rename_i ss v1 h1
          cases h
          refine execDraw_ok ih hcon h1 hX hm hv hg ?_
          rintro a2 w2 ⟨st, hm, hl, χ2, hx2, hg2⟩
          exact ⟨(.nrm, st), by simp only [List.mem_map]; exact ⟨st, hm, rfl⟩, trivial, hl, χ2, hx2, hg2⟩
      | false =>
        simp only [cond_false] at h
        split at h
        rotate_left
        · cases h
        rename_i ss v1 h1
        cases h
        refine wp_region (execOps_ok ih hcon h1 hX hv hg ?_)
        rintro a2 w2 ⟨st, hm, hl, χ2, hx2, hg2⟩
        exact ⟨(.nrm, st), by simp only [List.mem_map]; exact ⟨st, hm, rfl⟩, trivial, hl, χ2, hx2, hg2⟩
    | _ => cases h

end Go.Sx

namespace Go.Sx
open Go

def normSV (s : AS) : SV → SV
  | .bool f => (match s.dec f with | some true => .bool .tt | some false => .bool .ff | none => .bool f)
  | x => x

def normPV (s : AS) : PV → PV
  | .one x => .one (normSV s x)
  | .agg l => .agg (l.map (normSV s))

theorem normSV_ok {X : Ctx} {s : AS} {χ : Chi} {a : Act} {w : World} (hg : gS X s χ a w) {x : SV} {v : Value} (h : gSV X.P χ x v) : gSV X.P χ (normSV s x) v := by
  cases x with
  | bool f =>
    simp only [gSV] at h
    simp only [normSV]
    split
    · rename_i hd; have := AS.dec_ok hg hd; simp only [gSV, Fm.b]; rw [h, this]
    · rename_i hd; have := AS.dec_ok hg hd; simp only [gSV, Fm.b]; rw [h, this]
    · exact h
  | _ => exact h

theorem normPV_ok {X : Ctx} {s : AS} {χ : Chi} {a : Act} {w : World} (hg : gS X s χ a w) {x : PV} {v : Value} (h : gPV X.P χ x v) : gPV X.P χ (normPV s x) v := by
  cases x with
  | one x => exact normSV_ok hg h
  | agg l =>
    obtain ⟨cs, e, h2, h3⟩ := h
    exact ⟨cs, e, all2_map (R := gSV X.P χ) (R' := gSV X.P χ) (f := normSV s) (fun _ _ hx => normSV_ok hg hx) h2, h3⟩

def openB (st : AS) : List PV → Option Fm
  | ps => ((ps.map fun p => match p with | .one x => [x] | .agg l => l).flatten).findSome? fun x => match x with
    | .bool f => (match f with | .tt => none | .ff => none | .eq (.v _) (.c 1) => none | _ => (match st.dec f with | some _ => none | none => bif Nat.ble f.top st.nv then some f else none))
    | _ => none

def splitB (P : Program) (rs : List ResultVar) : Nat → AS → List AS
  | 0, st => [st]
  | n + 1, st => match (absRes P st rs).bind (openB st) with
    | some f => bif Nat.ble f.top st.nv then splitB P rs n (st.assume f) ++ splitB P rs n (st.assume f.neg) else [st]
    | none => [st]

theorem splitB_ok {X : Ctx} {rs : List ResultVar} {χ : Chi} {a : Act} {w : World} : ∀ (n : Nat) {st : AS}, gS X st χ a w → ∃ st' ∈ splitB X.P rs n st, gS X st' χ a w ∧ st.nv ≤ st'.nv := by
  intro n
  induction n with
  | zero => intro st hg; exact ⟨st, by simp [splitB], hg, Nat.le_refl _⟩
  | succ n ih =>
    intro st hg
    simp only [splitB]
    split
    · rename_i f hf
      cases hb : Nat.ble f.top st.nv with
      | false => exact ⟨st, by simp, hg, Nat.le_refl _⟩
      | true =>
        simp only [cond_true]
        have ht : f.top ≤ st.nv := by simpa using hb
        have hn : ∀ g : Fm, (st.assume g).nv = st.nv := fun g => AS.assume_nv st g
        cases hfb : f.b χ.ρ with
        | true =>
          obtain ⟨st', h1, h2, h3⟩ := ih (hg.assume ((Fm.b_iff _ _).1 hfb) ht)
          exact ⟨st', by simp [h1], h2, by rw [hn] at h3; exact h3⟩
        | false =>
          have hneg : f.neg.b χ.ρ = true := by rw [Fm.neg_b, hfb]; rfl
          obtain ⟨st', h1, h2, h3⟩ := ih (hg.assume ((Fm.b_iff _ _).1 hneg) (Nat.le_trans (Fm.neg_top f) ht))
          exact ⟨st', by simp [h1], h2, by rw [hn] at h3; exact h3⟩
    · exact ⟨st, by simp, hg, Nat.le_refl _⟩

def splitOuts (P : Program) (rs : List ResultVar) : List (Ex × AS) → List (Ex × AS)
  | [] => []
  | (e, st) :: l => (splitB P rs 6 st).map (fun x => (e, x)) ++ splitOuts P rs l

theorem splitOuts_mem {P : Program} {rs : List ResultVar} : ∀ {l : List (Ex × AS)} {o : Ex × AS}, o ∈ l → ∀ st' ∈ splitB P rs 6 o.2, (o.1, st') ∈ splitOuts P rs l := by
  intro l
  induction l with
  | nil => intro o h; cases h
  | cons x l ih =>
    intro o h st' hs
    obtain ⟨e, st⟩ := x
    simp only [splitOuts, List.mem_append, List.mem_map]
    rcases List.mem_cons.1 h with rfl | h
    · exact .inl ⟨st', hs, rfl⟩
    · exact .inr (ih h st' hs)

def checkOuts (P : Program) (fn : Func) (c : Contract) : List (Ex × AS) → Option (List VC)
  | [] => some []
  | (e, st) :: l =>
    match e, absRes P st fn.results.toList, checkOuts P fn c l with
    | .ext _, _, _ => none
    | _, some ps, some v =>
      match weakenL P (avBlocks st (resAV ps)) st with
      | some (st', v0) =>
        match (absRes P st' fn.results.toList).map (List.map (normPV st')) with
        | some ps' =>
          let θ := mkθ c.nv (bndList (bindAV c.nv c.riv.length (resAV ps') c.res []) c.nv c.riv.length)
          match leAV st' θ (resAV ps') c.res with
          | some v1 => some (v0 ++ (v1 ++ (leIv st' θ c.nv c.riv ++ (leFs st' θ c.post ++ v))))
          | none => none
        | none => none
      | none => none
    | _, _, _ => none

def checkFn (env : Env) (fuel : Nat) (f : Nat) (c : Contract) : Option (List VC) :=
  match env.P.funcs[f]? with
  | some fn =>
    match fn.body with
    | some body =>
      bif c.params.all (fun x => Nat.ble x.top' c.nv) && c.pre.all (fun x => Nat.ble x.top c.nv) then
        match exec env fuel f 0 body { tm := c.params ++ List.replicate (fn.ntmps - c.params.length) (.pv (.one .top)), hp := [], fs := c.pre, iv := c.iv, gl := c.gl } with
        | some (outs, v) =>
          match checkOuts env.P fn c (splitOuts env.P fn.results.toList outs) with
          | some v2 => some (v ++ v2)
          | none => none
        | none => none
      else none
    | none => none
  | none => none

theorem checkOuts_mem {P : Program} {fn : Func} {c : Contract} : ∀ {outs : List (Ex × AS)} {v : List VC}, checkOuts P fn c outs = some v → ∀ o ∈ outs, (∀ i, o.1 ≠ .ext i) ∧ ∃ l st' v0 ps' lb v1,
    weakenL P l o.2 = some (st', v0) ∧ (absRes P st' fn.results.toList).map (List.map (normPV st')) = some ps' ∧ leAV st' (mkθ c.nv lb) (resAV ps') c.res = some v1 ∧ (∀ y ∈ v0, y ∈ v) ∧ (∀ y ∈ v1, y ∈ v) ∧ (∀ y ∈ leIv st' (mkθ c.nv lb) c.nv c.riv, y ∈ v) ∧
      ∀ y ∈ leFs st' (mkθ c.nv lb) c.post, y ∈ v := by
  intro outs
  induction outs with
  | nil => intro v _ o ho; cases ho
  | cons x l ih =>
    intro v h o ho
    obtain ⟨e, st⟩ := x
    simp only [checkOuts] at h
    split at h
    · cases h
    · rename_i ps v2 hne hps hv2
      split at h
      rotate_left
      · cases h
      rename_i st' v0 hw
      split at h
      rotate_left
      · cases h
      rename_i ps' hps'
      split at h
      rotate_left
      · cases h
      rename_i v1 hle
      cases h
      rcases List.mem_cons.1 ho with rfl | ho
      · exact ⟨fun i hi => hne i hi, _, st', v0, ps', _, v1, hw, hps', hle, fun y hy => by simp [hy], fun y hy => by simp [hy], fun y hy => by simp [hy], fun y hy => by simp [hy]⟩
      · obtain ⟨k1, q1, q2, q3, q4, q5, q6, p1, p2, p3, p4, p5, p6, p7⟩ := ih hv2 o ho
        exact ⟨k1, q1, q2, q3, q4, q5, q6, p1, p2, p3, fun y hy => by simp [p4 y hy], fun y hy => by simp [p5 y hy], fun y hy => by simp [p6 y hy], fun y hy => by simp [p7 y hy]⟩
    · cases h

theorem checkFn_ok {env : Env} (hcon : ConOK env) {fuel f : Nat} {c : Contract} {vcs : List VC} (h : checkFn env fuel f c = some vcs) (hv : ∀ y ∈ vcs, y.valid) : FnOK env.P f c := by
  intro χ w args hinv hargs hiv hpre hgl
  unfold checkFn at h
  split at h
  rotate_left
  · cases h
  rename_i fn hfn
  split at h
  rotate_left
  · cases h
  rename_i body hbody
  cases hb : (c.params.all (fun x => Nat.ble x.top' c.nv) && c.pre.all (fun x => Nat.ble x.top c.nv)) with
  | false => rw [hb] at h; cases h
  | true =>
  rw [hb] at h
  simp only [cond_true] at h
  simp only [Bool.and_eq_true, List.all_eq_true, Nat.ble_eq] at hb
  split at h
  rotate_left
  · cases h
  rename_i outs v hex
  split at h
  rotate_left
  · cases h
  rename_i v2 hout
  cases h
  let X : Ctx := ⟨env.P, χ, w⟩
  have hg0 : gS X { tm := [], hp := [], fs := c.pre, iv := c.iv, gl := c.gl } χ { tmps := #[], defers := [] } w :=
    { inv := hinv, mem := MemExt.refl _ _, wf := ⟨fun x hx => (nomatch hx), fun x hx => (nomatch hx), hb.2⟩, defers := rfl, size := rfl, tm := fun i av hi => by simp at hi, hp := fun e he => (nomatch he), dist := .nil, fs := hpre, iv := hiv, gl := hgl }
  have hst := gS.enter hg0 hargs hb.1 fn.ntmps
  have hw := exec_ok hcon _ _ _ _ _ _ _ hex X rfl (fun y hy => hv y (by simp [hy])) χ _ _ hst
  refine calls_of_wp hfn hbody (wp_mono hw ?_)
  rintro e a' w' ⟨o0, ho0, he, hl0, χ2, hx2, hg20⟩
  obtain ⟨sto, hsto, hg2, hnv⟩ := splitB_ok (rs := fn.results.toList) 6 hg20
  obtain ⟨o, ho, he1, hl, heo⟩ : ∃ o : Ex × AS, o ∈ splitOuts env.P fn.results.toList outs ∧ o.1 = o0.1 ∧ c.nv ≤ o.2.nv ∧ o.2 = sto := ⟨(o0.1, sto), splitOuts_mem ho0 sto hsto, rfl, Nat.le_trans hl0 hnv, rfl⟩
  rw [← he1] at he
  rw [← heo] at hg2
  obtain ⟨k1, l, st', v0, ps', lb, v1, q1, q2, q3, q4, q5, q6, q7⟩ := checkOuts_mem hout o ho
  obtain ⟨χ3, hx3, hg3, hn3⟩ := weakenL_ok (X := X) q1 (fun y hy => hv y (by simp [q4 y hy])) hg2
  obtain ⟨ps0, q20, rfl⟩ := Option.map_eq_some_iff.1 q2
  obtain ⟨vs, hvs, h20⟩ := absRes_ok hg3 q20
  have h2 := all2_map (f := normPV st') (R' := gPV X.P _) (fun _ _ hx => normPV_ok hg3 hx) h20
  have hr := results_run hvs
  have hres := leAV_ok hg3 q3 (fun y hy => hv y (by simp [q5 y hy])) (resAV_ok h2)
  have hriv := leIv_ok hg3 (θ := mkθ c.nv lb) (l := c.riv) (n := c.nv) (fun y hy => hv y (by simp [q6 y hy]))
  have hpost := leFs_ok hg3 (θ := mkθ c.nv lb) (l := c.post) (fun y hy => hv y (by simp [q7 y hy]))
  have hl : c.nv ≤ o.2.nv := hl
  have fin : a'.defers = [] ∧ ∃ v, (results fn a'.tmps).run env.P w' = .ok v w' ∧ ∃ v' χ', Ending.returned v = .returned v' ∧ Ext c.nv χ χ' ∧ MemExt χ w χ' w' ∧ Inv env.P χ' w' ∧ gAV env.P χ' c.res v' ∧ ivOK χ'.ρ c.nv c.riv ∧ holdsAll χ'.ρ c.post :=
    ⟨hg3.defers, _, hr, _, _, rfl, (hx2.trans (hx3.mono hl)).trans (mkθ_ext χ3 c.nv lb), hg3.mem.withρ _, hg3.inv.withρ _, hres, hriv, hpost⟩
  cases e with
  | normal => exact fin
  | ret => exact fin
  | exit id => cases ho1 : o.1 with
    | nrm => rw [ho1] at he; exact he.elim
    | ext i => exact absurd ho1 (k1 i)
    | ret => rw [ho1] at he; exact he.elim
  | goto l => cases ho1 : o.1 <;> rw [ho1] at he <;> exact he.elim
  | panic c => cases ho1 : o.1 <;> rw [ho1] at he <;> exact he.elim
  | outgrown => cases ho1 : o.1 <;> rw [ho1] at he <;> exact he.elim

end Go.Sx

namespace Go.Sx
open Go

def cellOf (fr : Bool) (B : Int) (n : Nat) : CT → SV × List IV × List Fm
  | .int k lo hi => (.int k (.v n), [some (lo, hi)], [])
  | .bool => (.bool (.eq (.v n) (.c 1)), [some (0, 1)], [])
  | .str => (.str (.v n), [some (0, B)], [])
  | .slice E => (.slice fr E.emb (.v n) (.v (n + 1)), [some (0, B), some (0, CB)], [.le (.v n) (.v (n + 1))])
  | .any => (.top, [], [])
  | .sliceB m E => (.slice fr E.emb (.v n) (.v (n + 1)), [some (0, (m : Int)), some (0, CB)], [.le (.v n) (.v (n + 1))])
  | .strB m => (.str (.v n), [some (0, (m : Int))], [])

def cellsOf (fr : Bool) (B : Int) : Nat → List CT → List SV × List IV × List Fm
  | _, [] => ([], [], [])
  | n, c :: l =>
    let x := cellOf fr B n c
    let r := cellsOf fr B (n + x.2.1.length) l
    (x.1 :: r.1, x.2.1 ++ r.2.1, x.2.2 ++ r.2.2)

def pvOf (P : Program) (fr : Bool) (B : Int) (n t : Nat) : PV × List IV × List Fm :=
  match P.underlying t with
  | some (.pointer e) => (.one (.wptr fr (ckS P (.base e))), [], [])
  | _ =>
    match ckOf P ckN t with
    | some cts =>
      let x := cellsOf fr B n cts
      (match aggOf P t with
       | some true => (.agg x.1, x.2.1, x.2.2)
       | _ => (match x.1 with | [s] => (.one s, x.2.1, x.2.2) | _ => (.one .top, [], [])))
    | none => (.one .top, [], [])

def pvsOf (P : Program) (fr : Bool) (B : Int) : Nat → List Nat → List PV × List IV × List Fm
  | _, [] => ([], [], [])
  | n, c :: l =>
    let x := pvOf P fr B n c
    let r := pvsOf P fr B (n + x.2.1.length) l
    (x.1 :: r.1, x.2.1 ++ r.2.1, x.2.2 ++ r.2.2)

def conOf (P : Program) (B RB : Int) (frp : Bool) (fn : Func) : Contract :=
  let p := pvsOf P frp B 0 fn.params.toList
  let r := pvsOf P true RB p.2.1.length fn.resultTypes.toList
  { iv := p.2.1, pre := p.2.2, params := p.1.map .pv, riv := r.2.1, post := r.2.2, res := resAV r.1 }

def conOfI (P : Program) (B RB : Int) (frp : Bool) (IB : Int) (fn : Func) : Contract :=
  let c := conOf P B RB frp fn
  { c with iv := c.iv.map fun x => match x with
    | some (lo, hi) => bif ieq lo (-9223372036854775808) && ieq hi 9223372036854775807 then some (0, IB) else some (lo, hi)
    | none => none }

def setIvs (ivs : List (Nat × Int × Int)) : Nat → List IV → List IV
  | _, [] => []
  | n, x :: l => (match ivs.find? (fun p => Nat.beq p.1 n) with | some p => some (p.2.1, p.2.2) | none => x) :: setIvs ivs (n + 1) l

def pvsOfX (P : Program) (frs : List Nat) (B : Int) : Nat → Nat → List Nat → List PV × List IV × List Fm
  | _, _, [] => ([], [], [])
  | i, n, c :: l =>
    let x := pvOf P (nmem i frs) B n c
    let r := pvsOfX P frs B (i + 1) (n + x.2.1.length) l
    (x.1 :: r.1, x.2.1 ++ r.2.1, x.2.2 ++ r.2.2)

def conOfX (P : Program) (B RB : Int) (frs : List Nat) (ivs : List (Nat × Int × Int)) (pre post : List Fm) (fn : Func) : Contract :=
  let p := pvsOfX P frs B 0 0 fn.params.toList
  let r := pvsOf P true RB p.2.1.length fn.resultTypes.toList
  { iv := setIvs ivs 0 p.2.1, pre := p.2.2 ++ pre, params := p.1.map .pv, riv := setIvs ivs p.2.1.length r.2.1, post := r.2.2 ++ post, res := resAV r.1 }

end Go.Sx
