/- Part E of a proof: helper lemmas; no conditions. -/
import Derived.Test.YtnnaehcmchndmaaGreatDoorC
import Derived.Test.YtnnaehcmchndmaaGreatDoorD

set_option linter.unusedSimpArgs false
set_option linter.unusedVariables false

namespace Go.Sx
open Go

def absBuiltin (P : Program) (s : AS) (b : Builtin) (ts : Array TypeId) (args : List Operand) : Option OR :=
  match b, args with
  | .len, [x] => absLen P s ts x
  | .cap, [x] => absCap P s ts x
  | .max, [x, y] => absMM s true x y
  | .min, [x, y] => absMM s false x y
  | .append, [x, y] => (absAppend P s ts x y).or (absAppendZ P s ts x y)
  | .copy, [x, y] => absCopy P s ts x y
  | _, _ => none

theorem run_call_builtin {P : Program} {a : Act} {w w' : World} {o : Oper} {c : Call} {b : Builtin} {v : Value} (ho : o.op = .call c) (hc : c.callee = .builtin b) {s : Sem Value}
    (hb : ∀ consts, builtin b c.argTypes o.type consts (c.args.map a.eval) = (do Pure.pure (.value (← s)))) (hr : s.run P w = .ok v w') : (execOp a.eval o).run P w = .ok (.value v) w' := by
  simp only [execOp, ho]
  rw [Sem.run_bind]
  have : (resolve a.eval c o.type).run P w = .ok { target := .builtin b c.argTypes o.type (c.args.map fun | .const _ => true | _ => false), args := c.args.map a.eval } w := by
    unfold resolve
    rw [hc]
    rfl
  rw [this]
  simp only [Result.andThen_ok, invoke]
  rw [hb]
  simp [hr]

theorem map_of_toList {args : Array Operand} {l : List Operand} (h : args.toList = l) (f : Operand → Value) : args.map f = (l.map f).toArray := by
  apply Array.ext'
  simp [h]

theorem absBuiltin_ok {X : Ctx} {s : AS} {o : Oper} {c : Call} {b : Builtin} {r : OR} (ho : o.op = .call c) (hc : c.callee = .builtin b) (h : absBuiltin X.P s b c.argTypes c.args.toList = some r) : VOK X s o r := by
  intro χ a w hg hv
  unfold absBuiltin at h
  split at h
  · rename_i x hx
    have e := map_of_toList hx a.eval
    obtain ⟨v, hr, hs⟩ := absLen_ok h hg o.type
    exact ⟨v, w, χ, run_call_builtin ho hc (fun _ => by rw [e]; rfl) hr, hs⟩
  · rename_i x hx
    have e := map_of_toList hx a.eval
    obtain ⟨v, hr, hs⟩ := absCap_ok h hg o.type
    exact ⟨v, w, χ, run_call_builtin ho hc (fun _ => by rw [e]; rfl) hr, hs⟩
  · rename_i x y hx
    have e := map_of_toList hx a.eval
    obtain ⟨k, p, q, χ', h1, h2, hs⟩ := absMM_ok h hg
    have hr := (run_mm (P := X.P) (w := w) k p q c.argTypes o.type).1
    exact ⟨_, w, χ', run_call_builtin ho hc (fun _ => by rw [e]; simp only [List.map_cons, List.map_nil, h1, h2]; rfl) hr, hs⟩
  · rename_i x y hx
    have e := map_of_toList hx a.eval
    obtain ⟨k, p, q, χ', h1, h2, hs⟩ := absMM_ok h hg
    have hr := (run_mm (P := X.P) (w := w) k p q c.argTypes o.type).2
    exact ⟨_, w, χ', run_call_builtin ho hc (fun _ => by rw [e]; simp only [List.map_cons, List.map_nil, h1, h2]; rfl) hr, hs⟩
  · rename_i x y hx
    have e := map_of_toList hx a.eval
    cases h1 : absAppend X.P s c.argTypes x y with
    | some r' =>
      rw [h1] at h; simp at h; subst h
      obtain ⟨v, w', χ', hr, hs⟩ := absAppend_ok h1 hg hv o.type
      exact ⟨v, w', χ', run_call_builtin ho hc (fun _ => by rw [e]; rfl) hr, hs⟩
    | none =>
      rw [h1] at h; simp at h
      obtain ⟨v, w', χ', hr, hs⟩ := absAppendZ_ok h hg hv o.type
      exact ⟨v, w', χ', run_call_builtin ho hc (fun _ => by rw [e]; rfl) hr, hs⟩
  · rename_i x y hx
    have e := map_of_toList hx a.eval
    obtain ⟨v, w', χ', hr, hs⟩ := absCopy_ok h hg hv o.type
    exact ⟨v, w', χ', run_call_builtin ho hc (fun _ => by rw [e]; rfl) hr, hs⟩
  · cases h

def absVal (P : Program) (s : AS) (op : Op) : Option OR :=
  match op with
  | .move x => absMove s x
  | .assign x => absMove s x
  | .pick c x y => absPick s c x y
  | .alloc e => absAlloc P s e
  | .box e x => absBox s e x
  | .build t ps => absBuild P s t ps
  | .buildSlice t n ps => absBuildSlice P s t n ps
  | .load t x => absLoad P s t x
  | .nilCheck x => absNil s x
  | .binOp op t x y _ => (absBin P s op t x y).or (absBinA P s op t x y)
  | .unOp op _ x => absUn s op x
  | .convert a b x => (absConv P s a b x).or (absConvB P s a b x)
  | .makeInterface t _ => absMakeIface P t
  | .makeFunc f fs cs => absMakeFunc s f fs cs
  | .makeSlice t l c => absMake P s t l c
  | .slice t x l h m => absSlice P s t x l h m
  | .fieldAddr t x f => absFieldAddr P s t x f
  | .field t x f => absField P s t x f
  | .indexAddr t x i => absIndexAddr P s t x i
  | .index t x i => absIndex P s t x i
  | .extract x i => absExtract s x i
  | .call c => match c.callee with
    | .builtin b => absBuiltin P s b c.argTypes c.args.toList
    | _ => none
  | _ => none

theorem absVal_ok {X : Ctx} {s : AS} {o : Oper} {r : OR} (h : absVal X.P s o.op = some r) : VOK X s o r := by
  unfold absVal at h
  split at h
  · exact absMove_ok (.inl (by assumption)) h
  · exact absMove_ok (.inr (by assumption)) h
  · exact absPick_ok (by assumption) h
  · exact absAlloc_ok (by assumption) h
  · exact absBox_ok (by assumption) h
  · exact absBuild_ok (by assumption) h
  · exact absBuildSlice_ok (by assumption) h
  · exact absLoad_ok (by assumption) h
  · exact absNil_ok (by assumption) h
  · rename_i op t x y yt ho
    cases h1 : absBin X.P s op t x y with
    | some r' => rw [h1] at h; simp at h; subst h; exact absBin_ok ho h1
    | none => rw [h1] at h; simp at h; exact absBinA_ok ho h
  · exact absUn_ok (by assumption) h
  · rename_i a b x ho
    cases h1 : absConv X.P s a b x with
    | some r' => rw [h1] at h; simp at h; subst h; exact absConv_ok ho h1
    | none => rw [h1] at h; simp at h; exact absConvB_ok ho h
  · exact absMakeIface_ok (by assumption) h
  · exact absMakeFunc_ok (by assumption) h
  · exact absMake_ok (by assumption) h
  · exact absSlice_ok (by assumption) h
  · exact absFieldAddr_ok (by assumption) h
  · exact absField_ok (by assumption) h
  · exact absIndexAddr_ok (by assumption) h
  · exact absIndex_ok (by assumption) h
  · exact absExtract_ok (by assumption) h
  · split at h
    · exact absBuiltin_ok (by assumption) (by assumption) h
    · cases h
  · cases h

def hpSet (b off : Nat) (l : List SV) : List HE → List HE
  | [] => []
  | e :: r => (bif Nat.beq e.b b then { e with cells := splL e.cells off l } else e) :: hpSet b off l r

def absStoreS (P : Program) (s : AS) (t : TypeId) (addr x : Operand) : Option AS :=
  match s.osv addr, (s.opd x).cells, sizeAt P t with
  | .ptr b off, some l, some sz =>
    match hpFind b s.hp with
    | some e => bif Nat.beq l.length sz && Nat.ble (off + sz) e.cells.length && l.all (fun c => Nat.ble c.top' s.nv) then some { s with hp := hpSet b off l s.hp } else none
    | none => none
  | _, _, _ => none

theorem hpSet_mem {b off : Nat} {l : List SV} : ∀ {r : List HE} {e : HE}, e ∈ hpSet b off l r → ∃ e0 ∈ r, (e0.b ≠ b ∧ e = e0) ∨ (e0.b = b ∧ e = { e0 with cells := splL e0.cells off l }) := by
  intro r
  induction r with
  | nil => intro e h; cases h
  | cons x r ih =>
    intro e h
    simp only [hpSet, List.mem_cons] at h
    rcases h with h | h
    · cases hb : Nat.beq x.b b with
      | true => simp only [hb, cond_true] at h; exact ⟨x, by simp, .inr ⟨by simpa using hb, h⟩⟩
      | false => simp only [hb, cond_false] at h; exact ⟨x, by simp, .inl ⟨(fun e => by rw [e, Nat.beq_refl] at hb; cases hb), h⟩⟩
    · obtain ⟨e0, h0, h1⟩ := ih h
      exact ⟨e0, by simp [h0], h1⟩

theorem hpSet_b {b off : Nat} {l : List SV} : ∀ (r : List HE), (hpSet b off l r).map (·.b) = r.map (·.b) := by
  intro r
  induction r with
  | nil => rfl
  | cons x r ih => simp only [hpSet, List.map_cons, ih]; cases Nat.beq x.b b <;> rfl

theorem pairwise_b {R : Nat → Nat → Prop} {l m : List HE} (h : l.map (·.b) = m.map (·.b)) (hp : l.Pairwise fun e e' => R e.b e'.b) : m.Pairwise fun e e' => R e.b e'.b := by
  have h1 : (l.map (·.b)).Pairwise R := List.pairwise_map.2 hp
  rw [h] at h1
  exact List.pairwise_map.1 h1

theorem Inv.setOwn {P : Program} {χ : Chi} {w : World} (h : Inv P χ w) {b : Nat} (hb : ¬ χ.A b) (hlt : b < w.heap.size) (o : Obj) : Inv P χ (setBlk w b o) := by
  have hx := Ext.refl 0 χ
  have hne : ∀ {i}, χ.A i → i ≠ b := fun hi e => hb (e ▸ hi)
  refine ⟨h.sub, fun i hi => ?_, fun i hi => ?_, fun i hi => ?_⟩
  · exact BlockOK.ext hx (fun _ h => h) (fun _ h => h) hi (by rw [setBlk_get hlt, if_neg (hne hi)]) (h.blockA i hi)
  · exact BlockOK.ext hx (fun _ h => h) h.sub (h.sub i hi) (by rw [setBlk_get hlt, if_neg (hne (h.sub i hi))]) (h.blockF i hi)
  · intro cs E fz hc
    rw [setBlk_get hlt, if_neg (hne (h.sub i hi))] at hc
    exact h.unfr i hi cs E fz hc

theorem pairwise_ne {α : Type} {f : α → Nat} : ∀ {l : List α}, l.Pairwise (fun a b => f a ≠ f b) → ∀ {a b : α}, a ∈ l → b ∈ l → a ≠ b → f a ≠ f b := by
  intro l
  induction l with
  | nil => intro _ a b ha; cases ha
  | cons x l ih =>
    intro h a b ha hb hne
    rw [List.pairwise_cons] at h
    simp only [List.mem_cons] at ha hb
    rcases ha with rfl | ha <;> rcases hb with rfl | hb
    · exact (hne rfl).elim
    · exact h.1 b hb
    · exact fun e => h.1 a ha e.symm
    · exact ih h.2 ha hb hne

theorem absStoreS_ok {X : Ctx} {s s' : AS} {o : Oper} {t : TypeId} {addr x : Operand} (ho : o.op = .store t addr x) (h : absStoreS X.P s t addr x = some s') {χ : Chi} {a : Act} {w : World} (hg : gS X s χ a w) :
    ∃ w', (execOp a.eval o).run X.P w = .ok .skip w' ∧ gS X s' χ a w' ∧ ∃ b off ob, s.osv addr = .ptr b off ∧ w' = setBlk w (χ.ρ b).toNat ob := by
  have ha := s.osv_ok hg addr
  unfold absStoreS at h
  split at h
  rotate_left
  · cases h
  rename_i b off l sz ea el hsz
  rw [ea] at ha
  simp only [gSV] at ha
  split at h
  rotate_left
  · cases h
  rename_i e he
  cases hb : (Nat.beq l.length sz && Nat.ble (off + sz) e.cells.length && l.all (fun c => Nat.ble c.top' s.nv)) with
  | false => rw [hb] at h; cases h
  | true =>
    rw [hb] at h
    simp only [cond_true, Option.some.injEq] at h; subst h
    simp only [Bool.and_eq_true, Nat.ble_eq, List.all_eq_true] at hb
    obtain ⟨⟨b1, b2⟩, b3⟩ := hb
    have b1 : l.length = sz := by simpa using b1
    obtain ⟨hm, hbe⟩ := hpFind_mem he
    subst hbe
    obtain ⟨k1, k2, cs, hblk, h2, h1⟩ := hg.hp e hm
    obtain ⟨hc2, hc1⟩ := AV.cells_ok (s.opd_ok hg x) el
    have hvl : (a.eval x).cells.toList.length = sz := by rw [← hc2.length]; exact b1
    have hlen : off + (a.eval x).cells.toList.length ≤ cs.size := by have := h2.length; simp at this; omega
    have hlt := lt_of_blk hblk
    have hst := run_storeCells_blk X.P (a.eval x).cells.toList (χ.ρ e.b).toNat off 0 w cs e.E (0, 0) hblk (by simpa using hlen) (fun j _ h => by omega) hc1
    have hsz2 : (a.eval x).cells.size = sz := by simpa using hvl
    simp only [Nat.add_zero] at hst
    refine ⟨setBlk w (χ.ρ e.b).toNat (.cells (spl cs off (a.eval x).cells.toList) e.E (0, 0)), by simp [execOp, ho, Instr.storeAt, ha, Instr.sureAddr, storeVar, run_sizeAt hsz, hsz2, hst], ?_, e.b, off, _, ea, rfl⟩
    refine { inv := hg.inv.setOwn k2 hlt _, mem := ?_, wf := ⟨hg.wf.tm, ?_, hg.wf.fs⟩, defers := hg.defers, size := hg.size, tm := hg.tm, hp := ?_, dist := pairwise_b (R := fun i j => (χ.ρ i).toNat ≠ (χ.ρ j).toNat) (hpSet_b s.hp).symm hg.dist, fs := hg.fs, iv := hg.iv, gl := hg.gl }
    · refine ⟨hg.mem.os, hg.mem.tape, hg.mem.output, by rw [setBlk_size]; exact hg.mem.size, fun i hi hF => ?_, hg.mem.Fn, hg.mem.An⟩
      rw [setBlk_get hlt, if_neg (by omega)]
      exact hg.mem.old i hi hF
    · intro y hy
      obtain ⟨e0, h0, h3 | h3⟩ := hpSet_mem hy
      · rw [h3.2]; exact hg.wf.hp e0 h0
      · have := hg.wf.hp e0 h0
        show y.top' ≤ s.nv
        rw [h3.2]
        simp only [HE.top', Nat.max_le, foldr_max_le] at this ⊢
        refine ⟨this.1, fun c hc => ?_⟩
        simp only [splL, List.mem_append] at hc
        rcases hc with hc | hc | hc
        · exact this.2 c (List.mem_of_mem_take hc)
        · exact b3 c hc
        · exact this.2 c (List.mem_of_mem_drop hc)
    · intro y hy
      obtain ⟨e0, h0, h3 | h3⟩ := hpSet_mem hy
      · rw [h3.2]
        obtain ⟨p1, p2, cs0, p3, p4, p5⟩ := hg.hp e0 h0
        refine ⟨p1, p2, cs0, ?_, p4, p5⟩
        rw [setBlk_get hlt, if_neg ?_]
        · exact p3
        · -- another block
          intro heq
          have hd := hg.dist
          have hne : e0 ≠ e := fun h => h3.1 (by rw [h])
          exact pairwise_ne hd h0 hm hne heq
      · -- the block itself
        have he0 : e0 = e := by
          by_cases hne : e0 = e
          · exact hne
          · exact (pairwise_ne hg.dist h0 hm hne (by rw [h3.1])).elim
        subst he0
        rw [h3.2]
        refine ⟨k1, k2, spl cs off (a.eval x).cells.toList, ?_, ?_, ?_⟩
        · rw [setBlk_get hlt, if_pos rfl]
        · rw [spl_toList _ _ _ hlen]; exact all2_splL off h2 hc2
        · rw [spl_toList _ _ _ hlen]
          intro y hy'
          simp only [splL, List.mem_append] at hy'
          rcases hy' with hy' | hy' | hy'
          · exact h1 y (List.mem_of_mem_take hy')
          · exact hc1 y hy'
          · exact h1 y (List.mem_of_mem_drop hy')

end Go.Sx

namespace Go.Sx
open Go

def sval (ρ : Val) (θ : Nat → T) : Val := fun n => (θ n).ev ρ

theorem Fm.holds_sub' (ρ : Val) (θ : Nat → T) (f : Fm) : (f.sub' θ).holds ρ ↔ f.holds (sval ρ θ) := by
  rw [← Fm.b_iff, Fm.b_sub', ← Fm.b_iff]; rfl

def eqFm (f g : Fm) : Fm := fmEq f g

def isVarB (b b' : Nat) (θ : Nat → T) : Bool :=
  match θ b' with
  | .v m => Nat.beq m b
  | _ => false

theorem isVarB_ok {b b' : Nat} {θ : Nat → T} {ρ : Val} (h : isVarB b b' θ = true) : sval ρ θ b' = ρ b := by
  unfold isVarB at h
  split at h
  · rename_i m e
    have : m = b := by simpa using h
    subst this
    simp [sval, e, T.ev]
  · cases h

def sctEqSub (θ : Nat → T) : List SCT → List SCT → Bool
  | _, [] => true
  | a :: l, b :: m => a.beq (b.sub' θ) && sctEqSub θ l m
  | [], _ :: _ => false

theorem sctEqSub_ok {θ : Nat → T} {ρ : Val} : ∀ {l m : List SCT}, sctEqSub θ l m = true → m.length ≤ l.length ∧ ∀ i, i < m.length → (l.map (SCT.ev ρ))[i]? = (m.map (SCT.ev (sval ρ θ)))[i]? := by
  intro l
  induction l with
  | nil => intro m h; cases m with
    | nil => exact ⟨Nat.le_refl _, fun i hi => by simp at hi⟩
    | cons b m => cases h
  | cons a l ih => intro m h; cases m with
    | nil => exact ⟨Nat.zero_le _, fun i hi => by simp at hi⟩
    | cons b m =>
      simp only [sctEqSub, Bool.and_eq_true] at h
      obtain ⟨h1, h2⟩ := ih h.2
      refine ⟨by simp; omega, fun i hi => ?_⟩
      cases i with
      | zero => simp only [List.map_cons, List.getElem?_cons_zero]; rw [SCT.beq_eq h.1, SCT.ev_sub']; rfl
      | succ i => simp only [List.map_cons, List.getElem?_cons_succ]; exact h2 i (by simpa using hi)

def capEqSub (θ : Nat → T) : Cap → Cap → Bool
  | .st b o, .st b' o' => isVarB b b' θ && Nat.beq o o'
  | .wk fr cs, .wk fr' cs' => (fr || !fr') && sctEqSub θ cs cs'
  | _, _ => false

def capsEqSub (θ : Nat → T) : List Cap → List Cap → Bool
  | [], [] => true
  | c :: l, c' :: m => capEqSub θ c c' && capsEqSub θ l m
  | _, _ => false

def leSV (s : AS) (θ : Nat → T) (x p : SV) : Option (List VC) :=
  match x, p with
  | _, .top => some []
  | .int k t, .int k' t' => bif keq k k' then some (let u := t'.sub' θ; bif t.beq u then [] else s.need (.eq t u)) else none
  | .bool f, .bool g => let u := g.sub' θ; some (bif f.beq u then [] else s.need (fmEq f u))
  | .str t, .str t' => some (let u := t'.sub' θ; bif t.beq u then [] else s.need (.eq t u))
  | .slice fr E l c, .slice fr' E' l' c' =>
    bif (fr || !fr') && E.beq (E'.sub' θ) then some ((let u := l'.sub' θ; bif l.beq u then [] else s.need (.eq l u)) ++ (let u := c'.sub' θ; bif c.beq u then [] else s.need (.eq c u))) else none
  | .nilS, .slice _ _ l' c' => some (s.need (.eq (.c 0) (l'.sub' θ)) ++ s.need (.eq (.c 0) (c'.sub' θ)))
  | .nilS, .nilS => some []
  | .nilP, .nilP => some []
  | .nilF, .nilF => some []
  | .ptr b o, .ptr b' o' => bif isVarB b b' θ && Nat.beq o o' then some [] else none
  | .sslice b n, .sslice b' n' => bif isVarB b b' θ && Nat.beq n n' then some [] else none
  | .wptr fr cs, .wptr fr' cs' => bif (fr || !fr') && sctEqSub θ cs cs' then some [] else none
  | .func f caps, .func f' caps' => bif Nat.beq f f' && capsEqSub θ caps caps' then some [] else none
  | .glob g o, .glob g' o' => bif Nat.beq g g' && Nat.beq o o' then some [] else none
  | _, _ => none

theorem eqNeed_ok {X : Ctx} {s : AS} {χ : Chi} {a : Act} {w : World} (hg : gS X s χ a w) {θ : Nat → T} {t t' : T} (h : ∀ y ∈ (bif t.beq (t'.sub' θ) then [] else s.need (.eq t (t'.sub' θ))), y.valid) : t.ev χ.ρ = t'.ev (sval χ.ρ θ) := by
  cases hb : t.beq (t'.sub' θ) with
  | true => rw [T.beq_eq hb, T.ev_sub']; rfl
  | false =>
    rw [hb] at h
    have := AS.need_ok hg h
    simp only [Fm.holds] at this
    rw [this, T.ev_sub']; rfl

theorem RowOK.mono {χ χ' : Chi} (hκ : χ'.κ = χ.κ) {S S' : Nat → Prop} (hS : ∀ b, S b → S' b) {cts : List CT} {ao : Option Addr} {c : Nat} (h : RowOK χ S cts ao c) : RowOK χ' S' cts ao c := by
  cases ao with
  | none => exact h
  | some ad => exact ⟨h.1, hS _ h.2.1, fun i hi => by rw [hκ]; exact h.2.2 i hi⟩

theorem S_mono {P : Program} {χ : Chi} {w : World} (hi : Inv P χ w) {fr fr' : Bool} (h : (fr || !fr') = true) (ρ : Val) : ∀ b, χ.S fr b → (χ.withρ ρ).S fr' b := by
  intro b hb
  cases fr with
  | true =>
    cases fr' with
    | true => exact hb
    | false => exact hi.sub b hb
  | false =>
    cases fr' with
    | true => cases h
    | false => exact hb

theorem capEqSub_ok {P : Program} {χ : Chi} {w : World} (hi : Inv P χ w) {θ : Nat → T} {c c' : Cap} {v : Value} (h : capEqSub θ c c' = true) (hc : capOK χ c v) : capOK (χ.withρ (sval χ.ρ θ)) c' v := by
  cases c with
  | st b o => cases c' with
    | st b' o' =>
      simp only [capEqSub, Bool.and_eq_true] at h
      have e : o = o' := by simpa using h.2
      subst e
      simp only [capOK] at hc ⊢
      rw [hc]; simp only [Chi.withρ, isVarB_ok h.1]
    | wk fr cs => cases h
  | wk fr cs => cases c' with
    | st b' o' => cases h
    | wk fr' cs' =>
      simp only [capEqSub, Bool.and_eq_true] at h
      obtain ⟨h1, h2⟩ := sctEqSub_ok (ρ := χ.ρ) h.2
      obtain ⟨b, o, e, hbS, hk⟩ := hc
      refine ⟨b, o, e, S_mono hi h.1 _ b hbS, fun i hi' => ?_⟩
      have := hk i (by omega)
      simp only [Chi.withρ]
      rw [this, h2 i hi']

theorem capsEqSub_ok {P : Program} {χ : Chi} {w : World} (hi : Inv P χ w) {θ : Nat → T} : ∀ {l m : List Cap} {vs : List Value}, capsEqSub θ l m = true → All2 (capOK χ) l vs → All2 (capOK (χ.withρ (sval χ.ρ θ))) m vs := by
  intro l
  induction l with
  | nil => intro m vs h hc; cases m with
    | nil => cases vs with
      | nil => trivial
      | cons v vs => exact hc
    | cons b m => cases h
  | cons a l ih =>
    intro m vs h hc
    cases m with
    | nil => cases h
    | cons b' m =>
      simp only [capsEqSub, Bool.and_eq_true] at h
      cases vs with
      | nil => exact hc
      | cons v vs => exact ⟨capEqSub_ok hi h.1 hc.1, ih h.2 hc.2⟩

theorem leSV_ok {X : Ctx} {s : AS} {χ : Chi} {a : Act} {w : World} (hg : gS X s χ a w) {θ : Nat → T} {x p : SV} {vcs : List VC} (h : leSV s θ x p = some vcs) (hv : ∀ y ∈ vcs, y.valid) {v : Value} (hx : gSV X.P χ x v) :
    gSV X.P (χ.withρ (sval χ.ρ θ)) p v := by
  unfold leSV at h
  split at h
  · exact trivial
  · rename_i k t k' t'
    cases hk : keq k k' with
    | false => simp [hk] at h
    | true =>
      simp only [hk, cond_true, Option.some.injEq] at h; subst h
      have := keq_eq hk; subst this
      have := eqNeed_ok hg hv
      simp only [gSV] at hx ⊢
      rw [hx, this]; rfl
  · rename_i f g
    simp only [Option.some.injEq] at h; subst h
    have : f.b χ.ρ = g.b (sval χ.ρ θ) := by
      cases hb : f.beq (g.sub' θ) with
      | true => rw [Fm.beq_eq hb, Fm.b_sub']; rfl
      | false =>
        rw [hb] at hv
        have := AS.need_ok hg hv
        rw [← Fm.b_iff, fmEq_b] at this
        have h2 : f.b χ.ρ = (g.sub' θ).b χ.ρ := by simpa using this
        rw [h2, Fm.b_sub']; rfl
    simp only [gSV] at hx ⊢
    rw [hx, this]; rfl
  · rename_i t t'
    simp only [Option.some.injEq] at h; subst h
    have := eqNeed_ok hg hv
    obtain ⟨str, e, hl⟩ := hx
    exact ⟨str, e, by rw [hl, this]; rfl⟩
  · rename_i fr E l c fr' E' l' c'
    cases hb : ((fr || !fr') && E.beq (E'.sub' θ)) with
    | false => simp [hb] at h
    | true =>
      simp only [hb, cond_true, Option.some.injEq] at h; subst h
      simp only [Bool.and_eq_true] at hb
      have h1 := eqNeed_ok hg (t := l) (t' := l') (θ := θ) fun y hy => hv y (List.mem_append_left _ hy)
      have h2 := eqNeed_ok hg (t := c) (t' := c') (θ := θ) fun y hy => hv y (List.mem_append_right _ hy)
      obtain ⟨ao, ln, cp, e, e1, e2, e3, e4, e5⟩ := hx
      refine ⟨ao, ln, cp, e, by rw [e1, h1]; rfl, by rw [e2, h2]; rfl, e3, e4, ?_⟩
      have : E.ev χ.ρ = E'.ev (sval χ.ρ θ) := by rw [SE.beq_eq hb.2, SE.ev_sub']; rfl
      rw [this] at e5
      exact e5.mono rfl (S_mono hg.inv hb.1 _)
  · rename_i fr' E' l' c'
    simp only [Option.some.injEq] at h; subst h
    have h1 := AS.need_ok hg (g := .eq (.c 0) (l'.sub' θ)) fun y hy => hv y (List.mem_append_left _ hy)
    have h2 := AS.need_ok hg (g := .eq (.c 0) (c'.sub' θ)) fun y hy => hv y (List.mem_append_right _ hy)
    simp only [Fm.holds, T.ev, T.ev_sub'] at h1 h2
    exact ⟨none, 0, 0, hx, h1, h2, Nat.le_refl _, Nat.zero_le _, rfl⟩
  · exact hx
  · exact hx
  · exact hx
  · rename_i b o b' o'
    cases hb : (isVarB b b' θ && Nat.beq o o') with
    | false => simp [hb] at h
    | true =>
      simp only [Bool.and_eq_true] at hb
      have e : o = o' := by simpa using hb.2
      subst e
      simp only [gSV] at hx ⊢
      rw [hx]; simp only [Chi.withρ, isVarB_ok hb.1]
  · rename_i b o b' o'
    cases hb : (isVarB b b' θ && Nat.beq o o') with
    | false => simp [hb] at h
    | true =>
      simp only [Bool.and_eq_true] at hb
      have e : o = o' := by simpa using hb.2
      subst e
      simp only [gSV] at hx ⊢
      rw [hx]; simp only [Chi.withρ, isVarB_ok hb.1]
  · rename_i fr cs fr' cs'
    cases hb : ((fr || !fr') && sctEqSub θ cs cs') with
    | false => simp [hb] at h
    | true =>
      simp only [Bool.and_eq_true] at hb
      obtain ⟨h1, h2⟩ := sctEqSub_ok (ρ := χ.ρ) hb.2
      obtain ⟨b, o, e, hbS, hk⟩ := hx
      refine ⟨b, o, e, S_mono hg.inv hb.1 _ b hbS, fun i hi => ?_⟩
      have := hk i (by omega)
      simp only [Chi.withρ]
      rw [this, h2 i hi]
  · rename_i f caps f' caps'
    cases hb : (Nat.beq f f' && capsEqSub θ caps caps') with
    | false => simp [hb] at h
    | true =>
      simp only [Bool.and_eq_true] at hb
      have e : f = f' := by simpa using hb.1
      subst e
      obtain ⟨vs, hv', hc⟩ := hx
      exact ⟨vs, hv', capsEqSub_ok hg.inv hb.2 hc⟩
  · rename_i g o g' o'
    cases hb : (Nat.beq g g' && Nat.beq o o') with
    | false => simp [hb] at h
    | true =>
      simp only [Bool.and_eq_true] at hb
      have e : g = g' := by simpa using hb.1
      have e2 : o = o' := by simpa using hb.2
      subst e; subst e2
      exact hx
  · cases h

def leList {α : Type} (f : α → α → Option (List VC)) : List α → List α → Option (List VC)
  | [], [] => some []
  | x :: l, p :: m => match f x p, leList f l m with
    | some a, some b => some (a ++ b)
    | _, _ => none
  | _, _ => none

theorem leList_ok {α : Type} {f : α → α → Option (List VC)} {R R' : α → Value → Prop} (hf : ∀ x p vcs v, f x p = some vcs → (∀ y ∈ vcs, y.valid) → R x v → R' p v) :
    ∀ {l m : List α} {vcs : List VC} {vs : List Value}, leList f l m = some vcs → (∀ y ∈ vcs, y.valid) → All2 R l vs → All2 R' m vs := by
  intro l
  induction l with
  | nil => intro m vcs vs h _ h2; cases m with
    | nil => cases vs with
      | nil => trivial
      | cons v vs => exact h2.elim
    | cons c m => cases h
  | cons x l ih =>
    intro m vcs vs h hv h2
    cases m with
    | nil => cases h
    | cons c m =>
      cases vs with
      | nil => exact h2.elim
      | cons v vs =>
        simp only [leList] at h
        split at h
        · rename_i p q hp hq
          cases h
          exact ⟨hf _ _ _ _ hp (fun y hy => hv y (by simp [hy])) h2.1, ih hq (fun y hy => hv y (by simp [hy])) h2.2⟩
        · cases h

theorem leList_len {α : Type} {f : α → α → Option (List VC)} : ∀ {l m : List α} {vcs : List VC}, leList f l m = some vcs → l.length = m.length := by
  intro l
  induction l with
  | nil => intro m vcs h; cases m with
    | nil => rfl
    | cons c m => cases h
  | cons x l ih =>
    intro m vcs h
    cases m with
    | nil => cases h
    | cons c m =>
      simp only [leList] at h
      split at h
      · rename_i p q hp hq; simp [ih hq]
      · cases h

theorem leList_get {α : Type} {f : α → α → Option (List VC)} : ∀ {l m : List α} {vcs : List VC}, leList f l m = some vcs → ∀ {i : Nat} {p : α}, m[i]? = some p → ∃ x v, l[i]? = some x ∧ f x p = some v ∧ ∀ y ∈ v, y ∈ vcs := by
  intro l
  induction l with
  | nil => intro m vcs h i p hp; cases m with
    | nil => simp at hp
    | cons c m => cases h
  | cons x l ih =>
    intro m vcs h i p hp
    cases m with
    | nil => cases h
    | cons c m =>
      simp only [leList] at h
      split at h
      · rename_i a b ha hb
        cases h
        cases i with
        | zero => simp at hp; subst hp; exact ⟨x, a, by simp, ha, fun y hy => by simp [hy]⟩
        | succ i =>
          simp at hp
          obtain ⟨x', v, h1, h2, h3⟩ := ih hb hp
          exact ⟨x', v, by simpa using h1, h2, fun y hy => by simp [h3 y hy]⟩
      · cases h

def lePV (s : AS) (θ : Nat → T) (x p : PV) : Option (List VC) :=
  match x, p with
  | .one x, .one p => leSV s θ x p
  | _, .one .top => some []
  | .agg l, .agg m => leList (leSV s θ) l m
  | _, _ => none

def leAV (s : AS) (θ : Nat → T) (x p : AV) : Option (List VC) :=
  match x, p with
  | .pv x, .pv p => lePV s θ x p
  | _, .pv (.one .top) => some []
  | .tup l, .tup m => leList (lePV s θ) l m
  | _, _ => none

theorem lePV_ok {X : Ctx} {s : AS} {χ : Chi} {a : Act} {w : World} (hg : gS X s χ a w) {θ : Nat → T} {x p : PV} {vcs : List VC} (h : lePV s θ x p = some vcs) (hv : ∀ y ∈ vcs, y.valid) {v : Value} (hx : gPV X.P χ x v) :
    gPV X.P (χ.withρ (sval χ.ρ θ)) p v := by
  unfold lePV at h
  split at h
  · exact leSV_ok hg h hv hx
  · exact trivial
  · obtain ⟨cs, e, h2, h1⟩ := hx
    exact ⟨cs, e, leList_ok (R := gSV X.P χ) (R' := gSV X.P (χ.withρ (sval χ.ρ θ))) (fun _ _ _ _ h' hv' hx' => leSV_ok hg h' hv' hx') h hv h2, h1⟩
  · cases h

theorem leAV_ok {X : Ctx} {s : AS} {χ : Chi} {a : Act} {w : World} (hg : gS X s χ a w) {θ : Nat → T} {x p : AV} {vcs : List VC} (h : leAV s θ x p = some vcs) (hv : ∀ y ∈ vcs, y.valid) {v : Value} (hx : gAV X.P χ x v) :
    gAV X.P (χ.withρ (sval χ.ρ θ)) p v := by
  unfold leAV at h
  split at h
  · exact lePV_ok hg h hv hx
  · exact trivial
  · obtain ⟨cs, e, h2⟩ := hx
    exact ⟨cs, e, leList_ok (R := gPV X.P χ) (R' := gPV X.P (χ.withρ (sval χ.ρ θ))) (fun _ _ _ _ h' hv' hx' => lePV_ok hg h' hv' hx') h hv h2⟩
  · cases h

end Go.Sx

namespace Go.Sx
open Go

def mkθ (base : Nat) (l : List T) : Nat → T := fun n => if n < base then .v n else match l[n - base]? with | some t => t | none => .v n

theorem mkθ_lt {base : Nat} {l : List T} {n : Nat} (h : n < base) : mkθ base l n = .v n := by simp [mkθ, h]

theorem mkθ_ext (χ : Chi) (base : Nat) (l : List T) : Ext base χ (χ.withρ (sval χ.ρ (mkθ base l))) :=
  ⟨fun i hi => by simp only [Chi.withρ, sval, mkθ_lt hi, T.ev], fun _ h => h, fun _ h => h, fun _ _ _ => rfl⟩

def leHp (s : AS) (θ : Nat → T) : List HE → Option (List VC)
  | [] => some []
  | e' :: r =>
    match hpFind e'.b s.hp, leHp s θ r with
    | some e, some v2 =>
      bif isVarB e'.b e'.b θ && Nat.beq e.E e'.E then
        match leList (leSV s θ) e.cells e'.cells with
        | some v1 => some (v1 ++ v2)
        | none => none
      else none
    | _, _ => none

theorem leHp_mem {s : AS} {θ : Nat → T} : ∀ {l : List HE} {vcs : List VC}, leHp s θ l = some vcs → ∀ e' ∈ l, ∃ e v1, e ∈ s.hp ∧ e.b = e'.b ∧ isVarB e'.b e'.b θ = true ∧ e.E = e'.E ∧ leList (leSV s θ) e.cells e'.cells = some v1 ∧ ∀ y ∈ v1, y ∈ vcs := by
  intro l
  induction l with
  | nil => intro vcs _ e' he; cases he
  | cons x l ih =>
    intro vcs h e' he
    simp only [leHp] at h
    split at h
    rotate_left
    · cases h
    rename_i e v2 hf h2
    cases hb : (isVarB x.b x.b θ && Nat.beq e.E x.E) with
    | false => rw [hb] at h; cases h
    | true =>
      rw [hb] at h
      simp only [cond_true] at h
      simp only [Bool.and_eq_true] at hb
      split at h
      rotate_left
      · cases h
      rename_i v1 h1
      cases h
      simp only [List.mem_cons] at he
      rcases he with rfl | he
      · obtain ⟨hm, hbe⟩ := hpFind_mem hf
        exact ⟨e, v1, hm, hbe, hb.1, by simpa using hb.2, h1, fun y hy => by simp [hy]⟩
      · obtain ⟨e2, v, q1, q2, q3, q4, q5, q6⟩ := ih h2 e' he
        exact ⟨e2, v, q1, q2, q3, q4, q5, fun y hy => by simp [q6 y hy]⟩

def nodupB : List HE → Bool
  | [] => true
  | e :: l => l.all (fun e' => !(Nat.beq e.b e'.b)) && nodupB l

theorem nodupB_ok : ∀ {l : List HE}, nodupB l = true → l.Pairwise fun e e' => e.b ≠ e'.b := by
  intro l
  induction l with
  | nil => intro _; exact .nil
  | cons x l ih =>
    intro h
    simp only [nodupB, Bool.and_eq_true, List.all_eq_true, Bool.not_eq_true'] at h
    rw [List.pairwise_cons]
    refine ⟨fun e' he' => ?_, ih h.2⟩
    intro heq
    have := h.1 e' he'
    rw [heq, Nat.beq_refl] at this
    cases this

def leFs (s : AS) (θ : Nat → T) : List Fm → List VC
  | [] => []
  | f :: l => s.need (f.sub' θ) ++ leFs s θ l

theorem leFs_ok {X : Ctx} {s : AS} {χ : Chi} {a : Act} {w : World} (hg : gS X s χ a w) {θ : Nat → T} : ∀ {l : List Fm}, (∀ y ∈ leFs s θ l, y.valid) → holdsAll (sval χ.ρ θ) l := by
  intro l
  induction l with
  | nil => intro _; trivial
  | cons f l ih =>
    intro h
    exact ⟨(Fm.holds_sub' _ _ _).1 (AS.need_ok hg fun y hy => h y (by simp [leFs, hy])), ih fun y hy => h y (by simp [leFs, hy])⟩

def leIv (s : AS) (θ : Nat → T) : Nat → List IV → List VC
  | _, [] => []
  | n, none :: l => leIv s θ (n + 1) l
  | n, some (lo, hi) :: l => s.need (.le (.c lo) (θ n)) ++ (s.need (.le (θ n) (.c hi)) ++ leIv s θ (n + 1) l)

theorem leIv_ok {X : Ctx} {s : AS} {χ : Chi} {a : Act} {w : World} (hg : gS X s χ a w) {θ : Nat → T} : ∀ {l : List IV} {n : Nat}, (∀ y ∈ leIv s θ n l, y.valid) → ivOK (sval χ.ρ θ) n l := by
  intro l
  induction l with
  | nil => intro n _; trivial
  | cons f l ih =>
    intro n h
    cases f with
    | none => exact ih h
    | some p =>
      obtain ⟨lo, hi⟩ := p
      simp only [leIv, List.mem_append] at h
      have h1 := AS.need_ok hg (g := .le (.c lo) (θ n)) fun y hy => h y (.inl hy)
      have h2 := AS.need_ok hg (g := .le (θ n) (.c hi)) fun y hy => h y (.inr (.inl hy))
      simp only [Fm.holds, T.ev] at h1 h2
      exact ⟨⟨h1, h2⟩, ih fun y hy => h y (.inr (.inr hy))⟩

def AS.wfb (s : AS) : Bool := s.tm.all (fun x => Nat.ble x.top' s.nv) && s.hp.all (fun x => Nat.ble x.top' s.nv) && s.fs.all (fun x => Nat.ble x.top s.nv)

theorem AS.wfb_ok {s : AS} (h : s.wfb = true) : s.WF := by
  simp only [AS.wfb, Bool.and_eq_true, List.all_eq_true, Nat.ble_eq] at h
  exact ⟨h.1.1, h.1.2, h.2⟩

def subsume (s sj : AS) (θ : Nat → T) : Option (List VC) :=
  bif sj.wfb && nodupB sj.hp && glSub sj.gl s.gl then
    match leList (leAV s θ) s.tm sj.tm, leHp s θ sj.hp with
    | some v1, some v2 => some (v1 ++ (v2 ++ (leFs s θ sj.fs ++ leIv s θ 0 sj.iv)))
    | _, _ => none
  else none

theorem subsume_ok {X : Ctx} {s sj : AS} {χ : Chi} {a : Act} {w : World} (hg : gS X s χ a w) {θ : Nat → T} {vcs : List VC} (h : subsume s sj θ = some vcs) (hv : ∀ y ∈ vcs, y.valid) :
    gS X sj (χ.withρ (sval χ.ρ θ)) a w := by
  unfold subsume at h
  cases hb : (sj.wfb && nodupB sj.hp && glSub sj.gl s.gl) with
  | false => rw [hb] at h; cases h
  | true =>
    rw [hb] at h
    simp only [cond_true] at h
    simp only [Bool.and_eq_true] at hb
    split at h
    rotate_left
    · cases h
    rename_i v1 v2 h1 h2
    cases h
    have hmem : ∀ e' ∈ sj.hp, ∃ e ∈ s.hp, e.b = e'.b ∧ (sval χ.ρ θ) e'.b = χ.ρ e.b := by
      intro e' he'
      obtain ⟨e, _, q1, q2, q3, _⟩ := leHp_mem h2 e' he'
      exact ⟨e, q1, q2, by rw [isVarB_ok q3, q2]⟩
    refine { inv := hg.inv.withρ _, mem := hg.mem.withρ _, wf := AS.wfb_ok hb.1.1, defers := hg.defers, size := by rw [← leList_len h1]; exact hg.size, tm := ?_, hp := ?_, dist := ?_, fs := leFs_ok hg fun y hy => hv y (by simp [hy]), iv := leIv_ok hg fun y hy => hv y (by simp [hy]), gl := glSub_ok hb.2 hg.gl }
    · intro i av hi
      obtain ⟨x, v, q1, q2, q3⟩ := leList_get h1 hi
      exact leAV_ok hg q2 (fun y hy => hv y (by simp [q3 y hy])) (hg.tm i x q1)
    · intro e' he'
      obtain ⟨e, v, q1, q2, q3, q4, q5, q6⟩ := leHp_mem h2 e' he'
      have hb' : (sval χ.ρ θ) e'.b = χ.ρ e.b := by rw [isVarB_ok q3, q2]
      obtain ⟨p1, p2, cs, p3, p4, p5⟩ := hg.hp e q1
      simp only [HEok, Chi.withρ, hb', ← q4]
      exact ⟨p1, p2, cs, p3, leList_ok (R := gSV X.P χ) (R' := gSV X.P (χ.withρ (sval χ.ρ θ))) (fun _ _ _ _ h' hv' hx' => leSV_ok hg h' hv' hx') q5 (fun y hy => hv y (by simp [q6 y hy])) p4, p5⟩
    · refine (nodupB_ok hb.1.2).imp_of_mem fun {e1 e2} m1 m2 hne => ?_
      obtain ⟨f1, r1, r2, r3⟩ := hmem e1 m1
      obtain ⟨f2, t1, t2, t3⟩ := hmem e2 m2
      simp only [Chi.withρ, r3, t3]
      exact pairwise_ne hg.dist r1 t1 (fun e => hne (by rw [← r2, ← t2, e]))

def wkCap (b : Nat) (sct : List SCT) : Cap → Cap
  | .st b' o => bif Nat.beq b' b then .wk true (sct.drop o) else .st b' o
  | c => c

def wkSV (b : Nat) (E : SE) (m : Nat) (sct : List SCT) : SV → SV
  | .sslice b' n => bif Nat.beq b' b then (bif Nat.ble n m && Nat.ble m CB then .slice true E (.c n) (.c n) else .top) else .sslice b' n
  | .ptr b' o => bif Nat.beq b' b then .wptr true (sct.drop o) else .ptr b' o
  | .func f caps => .func f (caps.map (wkCap b sct))
  | x => x

def wkPV (f : SV → SV) : PV → PV
  | .one s => .one (f s)
  | .agg l => .agg (l.map f)

def wkAV (f : SV → SV) : AV → AV
  | .pv p => .pv (wkPV f p)
  | .tup l => .tup (l.map (wkPV f))

def weaken (P : Program) (s : AS) (b : Nat) : Option (AS × List VC) :=
  match hpFind b s.hp with
  | some e =>
    match sizeAt P e.E with
    | some sz =>
      match ctsOf P e.E sz with
      | some cts =>
        let n := e.cells.length / sz
        let sct := (List.replicate n (cts.map CT.emb)).flatten
        bif Nat.beq (n * sz) e.cells.length then
          match fitsL s e.cells sct with
          | some vcs =>
            let f := wkSV b (.base e.E) n sct
            some ({ s with tm := s.tm.map (wkAV f), hp := (s.hp.filter fun e' => !(Nat.beq e'.b b)).map fun e' => { e' with cells := e'.cells.map f } }, vcs)
          | none => none
        else none
      | none => none
    | none => none
  | none => none

def Chi.addF (χ : Chi) (n : Nat) (kk : Nat → Option CT) : Chi :=
  { ρ := χ.ρ, F := fun b => χ.F b ∨ b = n, A := fun b => χ.A b ∨ b = n, κ := fun b i => if b = n then kk i else χ.κ b i }

theorem Ext.addF {n : Nat} {χ : Chi} {b : Nat} (hb : ¬ χ.A b) (kk : Nat → Option CT) : Ext n χ (χ.addF b kk) where
  ρ := fun _ _ => rfl
  F := fun _ h => .inl h
  A := fun _ h => .inl h
  κ := fun i hi j => by
    have : i ≠ b := fun e => hb (e ▸ hi)
    simp only [Chi.addF]; rw [if_neg this]

theorem Inv.addF {P : Program} {χ : Chi} {w : World} (h : Inv P χ w) {b : Nat} (hb : ¬ χ.A b) {cs : Array Value} {E : TypeId} (hc : w.heap[b]? = some (.cells cs E (0, 0))) {kk : Nat → Option CT} (ht : TypedBy P χ χ.F cs kk) :
    Inv P (χ.addF b kk) w := by
  have hx := Ext.addF (n := 0) hb kk
  have hne : ∀ {i}, χ.A i → i ≠ b := fun hi e => hb (e ▸ hi)
  have hκb : (χ.addF b kk).κ b = kk := by funext i; simp [Chi.addF]
  refine ⟨?_, ?_, ?_, ?_⟩
  · intro i hi
    rcases hi with hi | hi
    · exact .inl (h.sub i hi)
    · exact .inr hi
  · intro i hi
    rcases hi with hi | hi
    · exact BlockOK.ext hx hx.A (fun _ h => h) hi rfl (h.blockA i hi)
    · subst hi
      refine ⟨cs, E, (0, 0), hc, ?_⟩
      rw [hκb]
      exact ht.ext hx (fun b hb => hx.A b (h.sub b hb)) h.sub
  · intro i hi
    rcases hi with hi | hi
    · exact BlockOK.ext hx hx.F h.sub (h.sub i hi) rfl (h.blockF i hi)
    · subst hi
      refine ⟨cs, E, (0, 0), hc, ?_⟩
      rw [hκb]
      exact ht.ext hx hx.F h.sub
  · intro i hi
    rcases hi with hi | hi
    · exact h.unfr i hi
    · subst hi
      intro cs' E' fz' hc'
      rw [hc] at hc'; cases hc'
      intro j _ hj
      omega

theorem wkSV_ok {P : Program} {χ : Chi} (hF : ∀ b, χ.F b → χ.A b) {b : Nat} (hb : ¬ χ.A (χ.ρ b).toNat) {E : TypeId} {m : Nat} {cts : List CT} (htau : tau P (.base E) = cts) (h1 : 1 ≤ cts.length) {x : SV} {v : Value} (hx : gSV P χ x v) :
    gSV P (χ.addF (χ.ρ b).toNat (perK cts m)) (wkSV b (.base E) m ((List.replicate m (cts.map CT.emb)).flatten) x) v := by
  have hext : Ext x.top' χ (χ.addF (χ.ρ b).toNat (perK cts m)) := Ext.addF hb _
  have keep : gSV P (χ.addF (χ.ρ b).toNat (perK cts m)) x v := gSV.ext hext hF (Nat.le_refl _) hx
  have hκ : ∀ i, (χ.addF (χ.ρ b).toNat (perK cts m)).κ (χ.ρ b).toNat i = perK cts m i := by intro i; simp [Chi.addF]
  cases x with
  | sslice b' n =>
    simp only [wkSV]
    cases hbb : Nat.beq b' b with
    | false => exact keep
    | true =>
      have e : b' = b := by simpa using hbb
      subst e
      simp only [cond_true]
      cases hn : (Nat.ble n m && Nat.ble m CB) with
      | false => exact trivial
      | true =>
        simp only [Bool.and_eq_true, Nat.ble_eq] at hn
        refine ⟨_, n, n, hx, rfl, rfl, Nat.le_refl _, by omega, ?_⟩
        simp only [SE.ev, htau]
        refine ⟨rfl, .inr rfl, fun i hi => ?_⟩
        have : n * cts.length ≤ m * cts.length := Nat.mul_le_mul_right _ hn.1
        simp only [Nat.zero_add]
        rw [hκ, perK, if_pos (by omega)]
  | ptr b' o =>
    simp only [wkSV]
    cases hbb : Nat.beq b' b with
    | false => exact keep
    | true =>
      have e : b' = b := by simpa using hbb
      subst e
      simp only [cond_true]
      refine ⟨_, o, hx, .inr rfl, fun i hi => ?_⟩
      have hl : ((List.replicate m (cts.map CT.emb)).flatten).length = m * cts.length := by
        simp [List.length_flatten, List.map_replicate, List.sum_replicate_nat]
      simp only [List.length_drop, hl] at hi
      rw [hκ, perK, if_pos (by omega)]
      have hlt : (o + i) % cts.length < cts.length := Nat.mod_lt _ (by omega)
      have hget := flatten_rep_get (cts.map CT.emb) cts.length (by simp) m ((o + i) / cts.length) ((o + i) % cts.length) (by rw [Nat.div_lt_iff_lt_mul (by omega)]; omega) hlt
      rw [Nat.div_add_mod'] at hget
      rw [List.getElem?_map, List.getElem?_drop, hget, List.getElem?_map, List.getElem?_eq_getElem hlt]
      simp [CT.ev_emb]
  | func f caps =>
    obtain ⟨vs, e, hc⟩ := hx
    refine ⟨vs, e, ?_⟩
    clear e keep hext
    generalize vs.toList = l at hc
    clear vs v
    induction caps generalizing l with
    | nil => cases l with
      | nil => trivial
      | cons v l => exact hc
    | cons c caps ih => cases l with
      | nil => exact hc
      | cons v l =>
        refine ⟨?_, ih l hc.2⟩
        have hx := hc.1
        have keep : capOK (χ.addF (χ.ρ b).toNat (perK cts m)) c v := capOK.ext (Ext.addF (n := c.top) hb _) hF (Nat.le_refl _) hx
        cases c with
        | wk fr cs => exact keep
        | st b' o =>
          simp only [wkCap]
          cases hbb : Nat.beq b' b with
          | false => exact keep
          | true =>
            have e : b' = b := by simpa using hbb
            subst e
            simp only [cond_true]
            refine ⟨_, o, hx, .inr rfl, fun i hi => ?_⟩
            have hl : ((List.replicate m (cts.map CT.emb)).flatten).length = m * cts.length := by
              simp [List.length_flatten, List.map_replicate, List.sum_replicate_nat]
            simp only [List.length_drop, hl] at hi
            rw [hκ, perK, if_pos (by omega)]
            have hlt : (o + i) % cts.length < cts.length := Nat.mod_lt _ (by omega)
            have hget := flatten_rep_get (cts.map CT.emb) cts.length (by simp) m ((o + i) / cts.length) ((o + i) % cts.length) (by rw [Nat.div_lt_iff_lt_mul (by omega)]; omega) hlt
            rw [Nat.div_add_mod'] at hget
            rw [List.getElem?_map, List.getElem?_drop, hget, List.getElem?_map, List.getElem?_eq_getElem hlt]
            simp [CT.ev_emb]
  | _ => exact keep

theorem wkSV_top (b : Nat) (E : TypeId) (m : Nat) (cts : List CT) (x : SV) : (wkSV b (.base E) m ((List.replicate m (cts.map CT.emb)).flatten) x).top' ≤ x.top' := by
  cases x with
  | sslice b' n =>
    simp only [wkSV]
    cases Nat.beq b' b with
    | false => exact Nat.le_refl _
    | true =>
      simp only [cond_true]
      cases (Nat.ble n m && Nat.ble m CB) with
      | false => exact Nat.zero_le _
      | true => simp [SV.top', SE.top, T.top]
  | ptr b' o =>
    simp only [wkSV]
    cases Nat.beq b' b with
    | false => exact Nat.le_refl _
    | true =>
      simp only [cond_true, SV.top', foldr_max_le]
      intro c hc
      have hc := List.mem_of_mem_drop hc
      rw [List.mem_flatten] at hc
      obtain ⟨l, hl, hcl⟩ := hc
      rw [List.mem_replicate] at hl
      rw [hl.2, List.mem_map] at hcl
      obtain ⟨ct, _, rfl⟩ := hcl
      cases ct with
      | slice E => cases E <;> simp [CT.emb, SCT.top, ET.emb, SE.top, T.top]
      | sliceB m E => cases E <;> simp [CT.emb, SCT.top, ET.emb, SE.top, T.top]
      | _ => simp [CT.emb, SCT.top, T.top]
  | func f caps =>
    simp only [wkSV, SV.top', foldr_max_le]
    intro c hc
    obtain ⟨c0, hc0, rfl⟩ := List.mem_map.1 hc
    have hle : c0.top ≤ caps.foldr (fun c m => max c.top m) 0 := (foldr_max_le Cap.top _ caps).1 (Nat.le_refl _) c0 hc0
    refine Nat.le_trans ?_ hle
    cases c0 with
    | wk fr cs => exact Nat.le_refl _
    | st b' o =>
      simp only [wkCap]
      cases Nat.beq b' b with
      | false => exact Nat.le_refl _
      | true =>
        simp only [cond_true, Cap.top, foldr_max_le]
        intro c hc
        have hc := List.mem_of_mem_drop hc
        rw [List.mem_flatten] at hc
        obtain ⟨l, hl, hcl⟩ := hc
        rw [List.mem_replicate] at hl
        rw [hl.2, List.mem_map] at hcl
        obtain ⟨ct, _, rfl⟩ := hcl
        cases ct with
        | slice E => cases E <;> simp [CT.emb, SCT.top, ET.emb, SE.top, T.top]
        | sliceB m E => cases E <;> simp [CT.emb, SCT.top, ET.emb, SE.top, T.top]
        | _ => simp [CT.emb, SCT.top, T.top]
  | _ => exact Nat.le_refl _

theorem all2_map {α β : Type} {R R' : α → β → Prop} {f : α → α} (h : ∀ a b, R a b → R' (f a) b) : ∀ {l : List α} {m : List β}, All2 R l m → All2 R' (l.map f) m := by
  intro l
  induction l with
  | nil => intro m h2; cases m with
    | nil => trivial
    | cons b m => exact h2
  | cons a l ih => intro m h2; cases m with
    | nil => exact h2
    | cons b m => exact ⟨h _ _ h2.1, ih h2.2⟩

theorem wkPV_ok {P : Program} {χ χ' : Chi} {f : SV → SV} (h : ∀ x v, gSV P χ x v → gSV P χ' (f x) v) {p : PV} {v : Value} (hx : gPV P χ p v) : gPV P χ' (wkPV f p) v := by
  cases p with
  | one s => exact h _ _ hx
  | agg l => obtain ⟨cs, e, h2, h1⟩ := hx; exact ⟨cs, e, all2_map h h2, h1⟩

theorem wkAV_ok {P : Program} {χ χ' : Chi} {f : SV → SV} (h : ∀ x v, gSV P χ x v → gSV P χ' (f x) v) {p : AV} {v : Value} (hx : gAV P χ p v) : gAV P χ' (wkAV f p) v := by
  cases p with
  | pv p => exact wkPV_ok h hx
  | tup l => obtain ⟨cs, e, h2⟩ := hx; exact ⟨cs, e, all2_map (R := gPV P χ) (R' := gPV P χ') (f := wkPV f) (fun _ _ hx' => wkPV_ok h hx') h2⟩

theorem wkPV_top {f : SV → SV} (h : ∀ x, (f x).top' ≤ x.top') (p : PV) : (wkPV f p).top' ≤ p.top' := by
  cases p with
  | one s => exact h s
  | agg l =>
    simp only [wkPV, PV.top', foldr_max_le, List.mem_map]
    rintro c ⟨x, hx, rfl⟩
    exact Nat.le_trans (h x) ((foldr_max_le SV.top' _ l).1 (Nat.le_refl _) x hx)

theorem wkAV_top {f : SV → SV} (h : ∀ x, (f x).top' ≤ x.top') (p : AV) : (wkAV f p).top' ≤ p.top' := by
  cases p with
  | pv p => exact wkPV_top h p
  | tup l =>
    simp only [wkAV, AV.top', foldr_max_le, List.mem_map]
    rintro c ⟨x, hx, rfl⟩
    exact Nat.le_trans (wkPV_top h x) ((foldr_max_le PV.top' _ l).1 (Nat.le_refl _) x hx)

theorem weaken_ok {X : Ctx} {s s' : AS} {b : Nat} {vcs : List VC} (h : weaken X.P s b = some (s', vcs)) (hv : ∀ y ∈ vcs, y.valid) {χ : Chi} {a : Act} {w : World} (hg : gS X s χ a w) :
    ∃ χ', Ext s.nv χ χ' ∧ gS X s' χ' a w ∧ s'.nv = s.nv := by
  unfold weaken at h
  split at h
  rotate_left
  · cases h
  rename_i e he
  split at h
  rotate_left
  · cases h
  rename_i sz hsz
  split at h
  rotate_left
  · cases h
  rename_i cts hcts
  dsimp only at h
  cases hb : Nat.beq (e.cells.length / sz * sz) e.cells.length with
  | false => rw [hb] at h; cases h
  | true =>
    rw [hb] at h
    simp only [cond_true] at h
    split at h
    rotate_left
    · cases h
    rename_i vcs' hfit
    cases h
    obtain ⟨hm, hbe⟩ := hpFind_mem he
    subst hbe
    obtain ⟨htau, hlen, h1⟩ := ctsOf_ok hcts
    obtain ⟨k1, k2, cs, hblk, h2, hone⟩ := hg.hp e hm
    have hty := fitsL_ok hg hfit hv h2
    generalize hmm : e.cells.length / sz = m at *
    have hnm : m * sz = e.cells.length := by simpa using hb
    have hcs : cs.size = m * cts.length := by have := h2.length; simp at this; rw [hlen]; omega
    have hper : PerOK X.P χ χ.F cts cs := by
      intro i v hvi
      have hlt : i < m * cts.length := by
        rcases Nat.lt_or_ge i cs.size with h | h
        · omega
        · rw [Array.getElem?_eq_none h] at hvi; cases hvi
      have hlt2 : i % cts.length < cts.length := Nat.mod_lt _ (by omega)
      have hget := flatten_rep_get (cts.map CT.emb) cts.length (by simp) m (i / cts.length) (i % cts.length) (by rw [Nat.div_lt_iff_lt_mul (by omega)]; exact hlt) hlt2
      rw [Nat.div_add_mod', List.getElem?_map, List.getElem?_eq_getElem hlt2] at hget
      obtain ⟨v', hv', hc⟩ := hty.get hget
      have : cs.toList[i]? = some v := by simpa using hvi
      rw [this] at hv'; cases hv'
      exact ⟨_, List.getElem?_eq_getElem hlt2, by rw [CT.ev_emb] at hc; exact hc⟩
    have hi' := hg.inv.addF k2 hblk (hper.typed hcs)
    have hext : Ext s.nv χ (χ.addF (χ.ρ e.b).toNat (perK cts m)) := Ext.addF k2 _
    have hf : ∀ x v, gSV X.P χ x v → gSV X.P (χ.addF (χ.ρ e.b).toNat (perK cts m)) (wkSV e.b (.base e.E) m ((List.replicate m (cts.map CT.emb)).flatten) x) v :=
      fun x v hx => wkSV_ok hg.inv.sub k2 htau (by omega) hx
    have ht := wkSV_top e.b e.E m cts
    have hbl : (χ.ρ e.b).toNat < w.heap.size := lt_of_blk hblk
    have hmemhp : ∀ e2 ∈ (s.hp.filter fun e' => !(Nat.beq e'.b e.b)), e2 ∈ s.hp ∧ e2 ≠ e := by
      intro e2 he2
      rw [List.mem_filter] at he2
      refine ⟨he2.1, fun h => ?_⟩
      subst h
      have := he2.2
      rw [Nat.beq_refl] at this; cases this
    refine ⟨_, hext, { inv := hi', mem := ?_, wf := ⟨?_, ?_, hg.wf.fs⟩, defers := hg.defers, size := by simp only [List.length_map]; exact hg.size, tm := ?_, hp := ?_, dist := ?_, fs := hg.fs, iv := hg.iv, gl := hg.gl.ext hext }, rfl⟩
    · refine ⟨hg.mem.os, hg.mem.tape, hg.mem.output, hg.mem.size, hg.mem.old, fun i hi => ?_, fun i hi => ?_⟩
      · rcases hi with hi | hi
        · exact hg.mem.Fn i hi
        · exact .inr (hi ▸ k1)
      · rcases hi with hi | hi
        · exact hg.mem.An i hi
        · exact .inr (hi ▸ k1)
    · intro x hx
      simp only [List.mem_map] at hx
      obtain ⟨y, hy, rfl⟩ := hx
      exact Nat.le_trans (wkAV_top ht y) (hg.wf.tm y hy)
    · intro x hx
      simp only [List.mem_map] at hx
      obtain ⟨y, hy, rfl⟩ := hx
      have := hg.wf.hp y (hmemhp y hy).1
      show _ ≤ s.nv
      simp only [HE.top', Nat.max_le, foldr_max_le] at this ⊢
      refine ⟨this.1, fun c hc => ?_⟩
      simp only [List.mem_map] at hc
      obtain ⟨z, hz, rfl⟩ := hc
      exact Nat.le_trans (ht z) (this.2 z hz)
    · intro i av hi
      simp only [List.getElem?_map] at hi
      cases hs : s.tm[i]? with
      | none => rw [hs] at hi; cases hi
      | some y => rw [hs] at hi; cases hi; exact wkAV_ok hf (hg.tm i y hs)
    · intro x hx
      simp only [List.mem_map] at hx
      obtain ⟨y, hy, rfl⟩ := hx
      obtain ⟨hys, hne⟩ := hmemhp y hy
      obtain ⟨p1, p2, cs2, p3, p4, p5⟩ := hg.hp y hys
      refine ⟨p1, ?_, cs2, p3, all2_map hf p4, p5⟩
      intro hA
      rcases hA with hA | hA
      · exact p2 hA
      · exact pairwise_ne hg.dist hys hm hne hA
    · have : (s.hp.filter fun e' => !(Nat.beq e'.b e.b)).Pairwise fun e1 e2 => (χ.ρ e1.b).toNat ≠ (χ.ρ e2.b).toNat := hg.dist.filter _
      rw [List.pairwise_map]
      exact this

end Go.Sx

namespace Go.Sx
open Go

structure Contract where
  iv : List IV
  pre : List Fm := []
  params : List AV
  riv : List IV := []
  post : List Fm := []
  res : AV
  gl : List (Nat × List CT) := []
  deriving Inhabited

def Contract.nv (c : Contract) : Nat := c.iv.length

def FnOK (P : Program) (f : FuncId) (c : Contract) : Prop :=
  ∀ (χ : Chi) (w : World) (args : Array Value), Inv P χ w → All2 (gAV P χ) c.params args.toList → ivOK χ.ρ 0 c.iv → holdsAll χ.ρ c.pre → GlOK χ c.gl →
    Calls P f args w fun e w' => ∃ v χ', e = .returned v ∧ Ext c.nv χ χ' ∧ MemExt χ w χ' w' ∧ Inv P χ' w' ∧ gAV P χ' c.res v ∧ ivOK χ'.ρ c.nv c.riv ∧ holdsAll χ'.ρ c.post

def subCaps (θ : Nat → T) : List Cap → Option (List Cap)
  | [] => some []
  | .wk fr cs :: l => (match subCaps θ l with | some r => some (.wk fr (cs.map (SCT.sub' θ)) :: r) | none => none)
  | .st .. :: _ => none

def subSV (θ : Nat → T) : SV → SV
  | .int k t => .int k (t.sub' θ)
  | .bool f => .bool (f.sub' θ)
  | .str t => .str (t.sub' θ)
  | .slice fr E l c => .slice fr (E.sub' θ) (l.sub' θ) (c.sub' θ)
  | .wptr fr cs => .wptr fr (cs.map (SCT.sub' θ))
  | .nilS => .nilS
  | .nilP => .nilP
  | .nilF => .nilF
  | .glob g o => .glob g o
  | .func f caps => (match subCaps θ caps with | some l => .func f l | none => .top)
  | _ => .top

def subPV (θ : Nat → T) : PV → PV
  | .one s => .one (subSV θ s)
  | .agg l => .agg (l.map (subSV θ))

def subAV (θ : Nat → T) : AV → AV
  | .pv p => .pv (subPV θ p)
  | .tup l => .tup (l.map (subPV θ))

theorem gSV_sub {P : Program} {χ : Chi} {θ : Nat → T} {x : SV} {v : Value} (h : gSV P (χ.withρ (sval χ.ρ θ)) x v) : gSV P χ (subSV θ x) v := by
  cases x with
  | top => exact trivial
  | int k t => simp only [gSV, subSV, Chi.withρ] at *; rw [h, T.ev_sub']; rfl
  | bool f => simp only [gSV, subSV, Chi.withρ] at *; rw [h, Fm.b_sub']; rfl
  | str t => obtain ⟨s, e, hl⟩ := h; exact ⟨s, e, by rw [hl, T.ev_sub']; rfl⟩
  | slice fr E l c =>
    obtain ⟨ao, ln, cp, e, e1, e2, e3, e4, e5⟩ := h
    refine ⟨ao, ln, cp, e, by rw [e1, T.ev_sub']; rfl, by rw [e2, T.ev_sub']; rfl, e3, e4, ?_⟩
    rw [SE.ev_sub']
    cases fr <;> exact e5
  | sslice b n => exact trivial
  | nilS => exact h
  | ptr b o => exact trivial
  | wptr fr cs =>
    obtain ⟨b, o, e, hb, hk⟩ := h
    refine ⟨b, o, e, by cases fr <;> exact hb, fun i hi => ?_⟩
    simp only [List.length_map] at hi
    have := hk i hi
    simp only [Chi.withρ] at this
    rw [this, List.map_map]
    simp only [List.getElem?_map, Function.comp_def, SCT.ev_sub']
    rfl
  | nilP => exact h
  | func f caps =>
    simp only [subSV]
    split
    · rename_i r hr
      obtain ⟨vs, e, hc⟩ := h
      refine ⟨vs, e, ?_⟩
      clear e
      generalize vs.toList = l at hc
      clear vs v
      induction caps generalizing l r with
      | nil =>
        simp only [subCaps, Option.some.injEq] at hr
        subst hr
        cases l with
        | nil => trivial
        | cons v l => exact hc.elim
      | cons c caps ih =>
        cases c with
        | st b o => cases hr
        | wk fr cs =>
          simp only [subCaps] at hr
          split at hr
          rotate_left
          · cases hr
          rename_i q hq
          simp only [Option.some.injEq] at hr
          subst hr
          cases l with
          | nil => exact hc
          | cons v l =>
            refine ⟨?_, ih q hq l hc.2⟩
            obtain ⟨b, o, e, hb, hk⟩ := hc.1
            refine ⟨b, o, e, by cases fr <;> exact hb, fun i hi => ?_⟩
            simp only [List.length_map] at hi
            have := hk i hi
            simp only [Chi.withρ] at this
            rw [this, List.map_map]
            simp only [List.getElem?_map, Function.comp_def, SCT.ev_sub']
            rfl
    · exact trivial
  | nilF => exact h
  | glob g o => exact h

theorem gPV_sub {P : Program} {χ : Chi} {θ : Nat → T} {x : PV} {v : Value} (h : gPV P (χ.withρ (sval χ.ρ θ)) x v) : gPV P χ (subPV θ x) v := by
  cases x with
  | one s => exact gSV_sub h
  | agg l => obtain ⟨cs, e, h2, h1⟩ := h; exact ⟨cs, e, all2_map (R := gSV P (χ.withρ (sval χ.ρ θ))) (R' := gSV P χ) (f := subSV θ) (fun _ _ hx => gSV_sub hx) h2, h1⟩

theorem gAV_sub {P : Program} {χ : Chi} {θ : Nat → T} {x : AV} {v : Value} (h : gAV P (χ.withρ (sval χ.ρ θ)) x v) : gAV P χ (subAV θ x) v := by
  cases x with
  | pv p => exact gPV_sub h
  | tup l => obtain ⟨cs, e, h2⟩ := h; exact ⟨cs, e, all2_map (R := gPV P (χ.withρ (sval χ.ρ θ))) (R' := gPV P χ) (f := subPV θ) (fun _ _ hx => gPV_sub hx) h2⟩

abbrev Bnd := List (Nat × T)

def bget (l : Bnd) (n : Nat) : Option T :=
  match l with
  | [] => none
  | (m, t) :: r => bif Nat.beq m n then some t else bget r n

def bindT (base k : Nat) (x p : T) (l : Bnd) : Bnd :=
  match p with
  | .v n => bif Nat.ble base n && Nat.blt n (base + k) then (match bget l n with | some _ => l | none => (n, x) :: l) else l
  | _ => l

def bindE (base k : Nat) (x p : SE) (l : Bnd) : Bnd :=
  match x, p with
  | .rint _ a b, .rint _ c d => bindT base k b d (bindT base k a c l)
  | _, _ => l

def bindSV (base k : Nat) (x p : SV) (l : Bnd) : Bnd :=
  match x, p with
  | .int _ t, .int _ u => bindT base k t u l
  | .str t, .str u => bindT base k t u l
  | .bool (.eq (.v m) (.c 1)), .bool (.eq u (.c 1)) => bindT base k (.v m) u l
  | .bool .tt, .bool (.eq u (.c 1)) => bindT base k (.c 1) u l
  | .bool .ff, .bool (.eq u (.c 1)) => bindT base k (.c 0) u l
  | .slice _ E a b, .slice _ E' c d => bindT base k b d (bindT base k a c (bindE base k E E' l))
  | .nilS, .slice _ _ c d => bindT base k (.c 0) d (bindT base k (.c 0) c l)
  | _, _ => l

def bindL {α : Type} (f : α → α → Bnd → Bnd) : List α → List α → Bnd → Bnd
  | x :: l, p :: m, b => bindL f l m (f x p b)
  | _, _, b => b

def bindPV (base k : Nat) (x p : PV) (l : Bnd) : Bnd :=
  match x, p with
  | .one x, .one p => bindSV base k x p l
  | .agg a, .agg b => bindL (bindSV base k) a b l
  | _, _ => l

def bindAV (base k : Nat) (x p : AV) (l : Bnd) : Bnd :=
  match x, p with
  | .pv x, .pv p => bindPV base k x p l
  | .tup a, .tup b => bindL (bindPV base k) a b l
  | _, _ => l

def bndList (l : Bnd) (base : Nat) : Nat → List T
  | 0 => []
  | k + 1 => (match bget l base with | some t => t | none => .c 0) :: bndList l (base + 1) k

def conσ (c : Contract) (n : Nat) (θ : Nat → T) : Nat → T := fun i => if i < c.nv then θ i else .v (n + (i - c.nv))

def topsOK (n : Nat) : List T → Bool
  | [] => true
  | t :: l => Nat.ble t.top n && topsOK n l

def absCon (s : AS) (c : Contract) (args : List AV) : Option OR :=
  let l := bndList (bindL (bindAV 0 c.nv) args c.params []) 0 c.nv
  let θ := mkθ 0 l
  let m := c.nv + c.riv.length
  bif topsOK s.nv l && Nat.beq l.length c.nv && Nat.ble c.res.top' m && c.post.all (fun f => Nat.ble f.top m) && glSub c.gl s.gl then
    match leList (leAV s θ) args c.params with
    | some v => some { av := subAV (conσ c s.nv θ) c.res, ivs := c.riv, fs := c.post.map (Fm.sub' (conσ c s.nv θ)), vcs := v ++ (leIv s θ 0 c.iv ++ leFs s θ c.pre) }
    | none => none
  else none

theorem topsOK_get {n : Nat} : ∀ {l : List T}, topsOK n l = true → ∀ {i : Nat} {t : T}, l[i]? = some t → t.top ≤ n := by
  intro l
  induction l with
  | nil => intro _ i t h; simp at h
  | cons a l ih =>
    intro h i t hi
    simp only [topsOK, Bool.and_eq_true, Nat.ble_eq] at h
    cases i with
    | zero => simp at hi; subst hi; exact h.1
    | succ i => simp at hi; exact ih h.2 hi

theorem ivOK_shift {ρ ρ' : Val} : ∀ (l : List IV) (n m : Nat), (∀ i, i < l.length → ρ' (m + i) = ρ (n + i)) → ivOK ρ n l → ivOK ρ' m l := by
  intro l
  induction l with
  | nil => intro n m _ _; trivial
  | cons a l ih =>
    intro n m h hl
    have h' : ∀ i, i < l.length → ρ' (m + 1 + i) = ρ (n + 1 + i) := fun i hi => by
      have := h (i + 1) (by simp; omega)
      rw [show m + 1 + i = m + (i + 1) by omega, show n + 1 + i = n + (i + 1) by omega]; exact this
    cases a with
    | none => exact ih _ _ h' hl
    | some p =>
      obtain ⟨lo, hi⟩ := p
      refine ⟨?_, ih _ _ h' hl.2⟩
      have := h 0 (by simp)
      simp only [Nat.add_zero] at this
      rw [this]; exact hl.1

theorem holdsAll_map_sub {ρ : Val} {θ : Nat → T} : ∀ {l : List Fm}, holdsAll (sval ρ θ) l → holdsAll ρ (l.map (Fm.sub' θ)) := by
  intro l
  induction l with
  | nil => intro _; trivial
  | cons f l ih => intro h; exact ⟨(Fm.holds_sub' _ _ _).2 h.1, ih h.2⟩

theorem absCon_ok {X : Ctx} {s : AS} {f : FuncId} {c : Contract} (hc : FnOK X.P f c) {args : List AV} {r : OR} (h : absCon s c args = some r) (hv : ∀ y ∈ r.vcs, y.valid) {χ : Chi} {a : Act} {w : World} (hg : gS X s χ a w)
    {vs : Array Value} (ha : All2 (gAV X.P χ) args vs.toList) :
    Calls X.P f vs w fun e w' => ∃ v χ', e = .returned v ∧ Step X s r χ w χ' w' v := by
  unfold absCon at h
  dsimp only at h
  generalize hl : bndList (bindL (bindAV 0 c.nv) args c.params []) 0 c.nv = l at h
  cases hb : (topsOK s.nv l && Nat.beq l.length c.nv && Nat.ble c.res.top' (c.nv + c.riv.length) && c.post.all (fun f => Nat.ble f.top (c.nv + c.riv.length)) && glSub c.gl s.gl) with
  | false => rw [hb] at h; cases h
  | true =>
    rw [hb] at h
    simp only [cond_true] at h
    simp only [Bool.and_eq_true, Nat.ble_eq, List.all_eq_true] at hb
    obtain ⟨⟨⟨⟨b1, b2⟩, b3⟩, b4⟩, b5⟩ := hb
    have b2 : l.length = c.nv := by simpa using b2
    split at h
    rotate_left
    · cases h
    rename_i v1 h1
    cases h
    have q1 : All2 (gAV X.P (χ.withρ (sval χ.ρ (mkθ 0 l)))) c.params vs.toList :=
      leList_ok (R := gAV X.P χ) (R' := gAV X.P (χ.withρ (sval χ.ρ (mkθ 0 l)))) (fun _ _ _ _ h' hv' hx' => leAV_ok hg h' hv' hx') h1 (fun y hy => hv y (by simp [hy])) ha
    have q2 : ivOK (sval χ.ρ (mkθ 0 l)) 0 c.iv := leIv_ok hg fun y hy => hv y (by simp [hy])
    have q3 : holdsAll (sval χ.ρ (mkθ 0 l)) c.pre := leFs_ok hg fun y hy => hv y (by simp [hy])
    refine (hc (χ.withρ (sval χ.ρ (mkθ 0 l))) w vs (hg.inv.withρ _) q1 q2 q3 (glSub_ok b5 hg.gl)).mono ?_
    rintro e w' ⟨v, χ1, rfl, hext, hmem, hinv, hres, hriv, hpost⟩
    let ρ' : Val := fun n => if n < s.nv then χ.ρ n else χ1.ρ (c.nv + (n - s.nv))
    have hρ1 : ∀ i, i < s.nv → ρ' i = χ.ρ i := fun i hi => by simp only [ρ']; rw [if_pos hi]
    have hρ2 : ∀ j, ρ' (s.nv + j) = χ1.ρ (c.nv + j) := fun j => by simp only [ρ']; rw [if_neg (by omega), show s.nv + j - s.nv = j by omega]
    have hσ : ∀ n, n < c.nv + c.riv.length → sval ρ' (conσ c s.nv (mkθ 0 l)) n = χ1.ρ n := by
      intro n hn
      simp only [sval, conσ]
      by_cases hlt : n < c.nv
      · rw [if_pos hlt, hext.ρ n hlt]
        simp only [Chi.withρ, sval, mkθ]
        rw [if_neg (by omega), Nat.sub_zero]
        have hln : n < l.length := by omega
        rw [List.getElem?_eq_getElem hln]
        exact T.ev_congr hρ1 _ (topsOK_get b1 (List.getElem?_eq_getElem hln))
      · rw [if_neg hlt]
        simp only [T.ev, hρ2]
        rw [show c.nv + (n - c.nv) = n by omega]
    refine ⟨v, χ1.withρ ρ', rfl, { ext := ⟨hρ1, hext.F, hext.A, hext.κ⟩, mem := ⟨hmem.os, hmem.tape, hmem.output, hmem.size, hmem.old, hmem.Fn, hmem.An⟩, inv := hinv.withρ _, val := ?_, fs := ?_, iv := ?_, hp := fun e he => by cases he
                                   dist := .nil }⟩
    · refine gAV_sub ?_
      have hx : Ext (c.nv + c.riv.length) χ1 ((χ1.withρ ρ').withρ (sval (χ1.withρ ρ').ρ (conσ c s.nv (mkθ 0 l)))) := ⟨fun i hi => hσ i hi, fun _ h => h, fun _ h => h, fun _ _ _ => rfl⟩
      exact gAV.ext hx hinv.sub b3 hres
    · refine holdsAll_map_sub ?_
      exact holdsAll_congr (n := c.nv + c.riv.length) hσ c.post (fun f hf => b4 f hf) hpost
    · exact ivOK_shift c.riv c.nv s.nv (fun i _ => hρ2 i) hriv

end Go.Sx
