/- Part LS of a proof: helper lemmas; no conditions. -/
import Derived.Test.YtnnaehcmchndmaaGreatDoorI
import Derived.Test.YtnnaehcmchndmaaGreatDoorH
import Derived.Test.YtnnaehcmchndmaaGreatDoorJ
import Derived.Handed
import Derived.ShapedOpen

set_option linter.unusedSimpArgs false
set_option linter.unusedVariables false

namespace Go.Sx
open Go

theorem seen_strs {w : World} {t : Nat} {b o : Nat} {ao : Option Addr} {l c : Nat} (h : w.cell? ⟨b, o, none⟩ = some (.slice ao l c)) (st : Seen) :
    seen w (.strs t) b o st = rowLoop (elem w .str ao) l 0 (st.1 ++ [(l : Int)], st.2) := by
  simp only [seen, h]
  cases ao <;> rfl

structure AllSRel (T3 T9 : Nat) (w : World) (be oe base : Nat) (at_ : Int) (F : Nat → Seen → Seen) (l : Nat) (st0 : Seen) (k i : Nat) (wr : World) (vn vs : Value) (st : Seen) : Prop where
  ik : i + k = l
  keeps : Keeps w wr be oe base
  eye : EyeAt T3 T9 wr be oe base false at_ vn vs st.1 st.2
  eq : rowLoop F l 0 st0 = rowLoop F k i st
  n : st.1.length = st0.1.length
  s : st.2.length = st0.2.length + i

section
variable {P : Program} {T3 T9 h t : Nat} {w : World} {Z : Nat → Prop} {be oe base : Nat} {at_ : Int} {ao : Option Addr} {l k i : Nat} {ns : List Int} {ss : List ByteArray} {wr : World} {vn vs : Value} {st : Seen}

theorem AllSRel.out (hr : AllSRel T3 T9 w be oe base at_ (elem w .str ao) l (ns ++ [(l : Int)], ss) k i wr vn vs st) (hx : k = 0 ∨ 200000 ≤ st.1.length) :
    SeePost T3 T9 w be oe base at_ (rowLoop (elem w .str ao) l 0 (ns ++ [(l : Int)], ss)) (.returned (.tuple #[])) wr := by
  have : rowLoop (elem w .str ao) l 0 (ns ++ [(l : Int)], ss) = st := by
    rw [hr.eq]
    rcases hx with hx | hx
    · subst hx; rfl
    · cases k with
      | zero => rfl
      | succ k => simp only [rowLoop]; rw [if_neg (by omega)]
  rw [this]
  exact ⟨rfl, hr.keeps, vn, vs, hr.eye⟩

theorem AllSRel.round (hl100 : l ≤ 100) (hrow : RowRd Z w .str ao l) (hfar : Far Z be base) (hroom : Room (.strs t) ns ss) (hsee : SeeOK P T3 T9 h .str)
    (hr : AllSRel T3 T9 w be oe base at_ (elem w .str ao) l (ns ++ [(l : Int)], ss) (k + 1) i wr vn vs st) (hlt : st.1.length < 200000) :
    ∃ b' o', ao = some ⟨b', o', none⟩ ∧ i < l ∧ Calls P h #[.pointer (some ⟨be, oe, none⟩), .pointer (some ⟨b', o' + i, none⟩)] wr fun en w' => en = .returned (.tuple #[]) ∧
      ∃ vn' vs' st', AllSRel T3 T9 w be oe base at_ (elem w .str ao) l (ns ++ [(l : Int)], ss) k (i + 1) w' vn' vs' st' := by
  have hil : i < l := by have := hr.ik; omega
  rcases hrow with hl | ⟨b', o', rfl, hat⟩
  · omega
  · refine ⟨b', o', rfl, hil, ?_⟩
    have hsame := hr.keeps.same hfar
    have hati := hat i (by omega)
    have hRM := RM_eq
    have hroom' : Room .str st.1 st.2 := by
      obtain ⟨h1, h2, h0⟩ := hroom
      have h3 : st.2.length = ss.length + i := hr.s
      have h4 : st.1.length = (ns ++ [(l : Int)]).length := hr.n
      simp only [List.length_append, List.length_cons, List.length_nil] at h4
      simp only [D.co] at h2
      rw [← hRM] at h2
      refine ⟨by simp only [D.bnd]; omega, by simp only [D.co]; rw [← hRM]; omega, trivial⟩
    rw [show i * D.str.size = i from Nat.mul_one i] at hati
    refine (hsee wr Z be oe base b' (o' + i) at_ vn vs st.1 st.2 (hati.same hsame .str) hfar hr.eye hroom').mono ?_
    rintro en w' ⟨rfl, hk, vn', vs', he'⟩
    rw [seen_same hsame .str hati] at he'
    refine ⟨rfl, vn', vs', seen w .str b' (o' + i) (st.1, st.2), ⟨by have := hr.ik; omega, hr.keeps.trans hk, he', ?_, ?_, ?_⟩⟩
    · rw [hr.eq]
      simp only [rowLoop]
      rw [if_pos hlt]
      show rowLoop _ k (i + 1) (seen w .str b' (o' + i * 1) st) = _
      rw [Nat.mul_one]
    · have := hr.n; simp only [seen]; omega
    · have h5 : st.2.length = ss.length + i := hr.s
      show (st.2 ++ [_]).length = ss.length + (i + 1)
      simp only [List.length_append, List.length_cons, List.length_nil]; omega

end

def AllSOK (P : Program) (T3 T9 g h t : Nat) : Prop :=
  ∀ (w : World) (Z : Nat → Prop) (be oe base : Nat) (ao : Option Addr) (l c : Nat) (at_ : Int) (vn vs : Value) (ns : List Int) (ss : List ByteArray), RowRd Z w .str ao l → l ≤ 100 → Far Z be base → EyeAt T3 T9 w be oe base false at_ vn vs ns ss → Room (.strs t) ns ss →
    Calls P g #[.pointer (some ⟨be, oe, none⟩), .slice ao l c, .func (.func h) #[] #[]] w (SeePost T3 T9 w be oe base at_ (rowLoop (elem w .str ao) l 0 (ns ++ [(l : Int)], ss)))

theorem SeeCode.strs {P : Program} {T3 T9 n id s1 s2 s3 s4 T t g h : Nat} {dst : Option Tmp} {y1 y2 y3 y4 y5 : Nat} {p1 p2 p3 p4 p5 : String} {f1 f2 f3 f4 f5 : Array Edge} {tys : Array Nat} {fn : Func}
    (hsl : slotsB n s1 s2 s3 s4 = true) (hdst : ∀ x, dst = some x → 2 ≤ x) (hagg : aggOf P T = some false)
    (hfn : P.funcs[g]? = some fn) (hb : fn.body.isSome = true) (hname : (fn.name == "runtime.NumGoroutine") = false) (hall : AllSOK P T3 T9 g h t) :
    SeeCode P T3 T9 n (.region id #[⟨some s1, .move (.tmp 0), y1, p1, f1, none⟩, ⟨some s2, .move (.tmp 1), y2, p2, f2, none⟩, ⟨some s3, .nilCheck (.tmp s2), y3, p3, f3, none⟩, ⟨some s4, .load T (.tmp s3), y4, p4, f4, none⟩,
      ⟨dst, .call ⟨.value (.func g), #[.tmp s1, .tmp s4, .func h], tys⟩, y5, p5, f5, none⟩] false) (.strs t) 0 := by
  intro Q a w Z be oe base bx ox at_ vn vs ns ss hfr hat hfar he hroom hQ
  obtain ⟨h1, h2, h3, h4, l1, l2, l3, l4, d12, d13, d14⟩ := slots_of hsl
  have hz := hfr.size
  obtain ⟨ao, l, c, hc, hlc, hlb, hl100, hrow⟩ := hat.strs
  refine wp_region (wpOps5 rfl rfl rfl rfl rfl ?_)
  refine wp_move rfl (wp_move rfl (wp_nilCheck (ad := ⟨bx, ox, none⟩) rfl ?_ (wp_load1 (ad := ⟨bx, ox, none⟩) rfl hagg ?_ hc (wp_callF rfl rfl hfn hb hname (vs := #[.pointer (some ⟨be, oe, none⟩), .slice ao l c, .func (.func h) #[] #[]]) ?_ ?_))))
  · rw [eval_put, if_pos ⟨rfl, by simp only [put_size]; omega⟩]
    rw [eval_put, if_neg (by omega)]; exact hfr.x
  · rw [eval_put, if_pos ⟨rfl, by simp only [put_size]; omega⟩]
  · simp only [List.map_toArray, List.map_cons, List.map_nil]
    congr 1
    rw [eval_put, if_neg (by omega), eval_put, if_neg (by omega), eval_put, if_neg (by omega), eval_put, if_pos ⟨rfl, by omega⟩, eval_put, if_pos ⟨rfl, by simp only [put_size]; omega⟩]
    rw [show a.eval (.tmp 0) = _ from hfr.e]
    rfl
  · refine (hall w Z be oe base ao l c at_ vn vs ns ss hrow hl100 hfar he hroom).mono ?_
    rintro en w' ⟨rfl, hk, hx⟩
    refine ⟨_, rfl, hQ _ _ ?_ hk ?_⟩
    · exact (((((hfr.put (fun d h => by cases h; exact h1) _).put (fun d h => by cases h; exact h2) _).put (fun d h => by cases h; exact h3) _).put (fun d h => by cases h; exact h4) _).put hdst _)
    · rw [seen_strs hc]; exact hx

structure AllSMRel (P : Program) (T3 T9 : Nat) (χ : Chi) (w : World) (be oe base l n0 s0 : Nat) (k i : Nat) (wr : World) (at_ : Int) (vn vs : Value) (ns : List Int) (ss : List ByteArray) : Prop where
  ik : i + k = l
  keeps : KeepsM χ.A w wr be base
  inv : InvF P χ wr
  eye : EyeAt T3 T9 wr be oe base true at_ vn vs ns ss
  n : n0 ≤ ns.length
  top : ns.length ≤ max n0 200000
  s : ss.length ≤ s0 + (ns.length - n0) + i

section
variable {P : Program} {T3 T9 h t : Nat} {w : World} {χ : Chi} {be oe base : Nat} {at_ : Int} {ao : Option Addr} {l k i n0 s0 : Nat} {ns : List Int} {ss : List ByteArray} {wr : World} {vn vs : Value}

theorem AllSMRel.out {ns0 : List Int} {ss0 : List ByteArray} (hl100 : l ≤ 100) (hr : AllSMRel P T3 T9 χ w be oe base l (ns0.length + 1) ss0.length k i wr at_ vn vs ns ss) : MarkEnd P T3 T9 χ w be oe base (.strs t) ns0 ss0 wr := by
  have h1 := hr.n
  have h2 := hr.s
  have h3 := hr.ik
  have h4 := hr.top
  refine ⟨hr.keeps, hr.inv, at_, vn, vs, ns, ss, hr.eye, by omega, fun _ => by omega, by simp only [D.bnd]; omega, by simp only [D.co]; omega, by simp only [D.mn]; omega⟩

theorem AllSMRel.round (hl100 : l ≤ 100) (hrow : RowAt χ .str ao l) (hfar : Far χ.A be base) (hn0 : n0 ≤ 1000000) (hs0 : s0 + 100 * RM ≤ 1000000000) (hsee : MarkOK P T3 T9 h .str)
    (hr : AllSMRel P T3 T9 χ w be oe base l n0 s0 (k + 1) i wr at_ vn vs ns ss) (hlt : ns.length < 200000) :
    ∃ b' o', ao = some ⟨b', o', none⟩ ∧ i < l ∧ Calls P h #[.pointer (some ⟨be, oe, none⟩), .pointer (some ⟨b', o' + i, none⟩)] wr fun en w' => en = .returned (.tuple #[]) ∧
      ∃ at' vn' vs' ns' ss', AllSMRel P T3 T9 χ w be oe base l n0 s0 k (i + 1) w' at' vn' vs' ns' ss' := by
  have hil : i < l := by have := hr.ik; omega
  rcases hrow with hl | ⟨b', o', rfl, hat⟩
  · omega
  · refine ⟨b', o', rfl, hil, ?_⟩
    have hati := hat i (by omega)
    rw [show i * D.str.size = i from Nat.mul_one i] at hati
    have hRM := RM_eq
    have hn := hr.n
    have h3 := hr.s
    rw [← hRM] at hs0
    have hroom' : Room .str ns ss := ⟨by simp only [D.bnd]; omega, by simp only [D.co]; rw [← hRM]; omega, trivial⟩
    refine (hsee wr χ be oe base b' (o' + i) at_ vn vs ns ss hr.inv hati hfar hr.eye hroom').mono ?_
    rintro en w' ⟨rfl, hk, hinv', at', vn', vs', ns', ss', he', g1, g2, g3, g4, g5⟩
    simp only [D.co, D.bnd] at g3 g4
    refine ⟨rfl, at', vn', vs', ns', ss', ⟨by have := hr.ik; omega, hr.keeps.trans hk, hinv', he', by omega, by omega, by omega⟩⟩

end

def AllSMOK (P : Program) (T3 T9 g h t : Nat) : Prop :=
  ∀ (w : World) (χ : Chi) (be oe base : Nat) (ao : Option Addr) (l c : Nat) (at_ : Int) (vn vs : Value) (ns : List Int) (ss : List ByteArray), InvF P χ w → RowAt χ .str ao l → l ≤ 100 → Far χ.A be base → EyeAt T3 T9 w be oe base true at_ vn vs ns ss → Room (.strs t) ns ss →
    Calls P g #[.pointer (some ⟨be, oe, none⟩), .slice ao l c, .func (.func h) #[] #[]] w fun en w' => en = .returned (.tuple #[]) ∧ MarkEnd P T3 T9 χ w be oe base (.strs t) ns ss w'

theorem MarkCode.strs {P : Program} {T3 T9 n id s1 s2 s3 s4 T t g h : Nat} {dst : Option Tmp} {y1 y2 y3 y4 y5 : Nat} {p1 p2 p3 p4 p5 : String} {f1 f2 f3 f4 f5 : Array Edge} {tys : Array Nat} {fn : Func}
    (hsl : slotsB n s1 s2 s3 s4 = true) (hdst : ∀ x, dst = some x → 2 ≤ x) (hagg : aggOf P T = some false) (htau : tau P (.base t) = [.str])
    (hfn : P.funcs[g]? = some fn) (hb : fn.body.isSome = true) (hname : (fn.name == "runtime.NumGoroutine") = false) (hall : AllSMOK P T3 T9 g h t) :
    MarkCode P T3 T9 n (.region id #[⟨some s1, .move (.tmp 0), y1, p1, f1, none⟩, ⟨some s2, .move (.tmp 1), y2, p2, f2, none⟩, ⟨some s3, .nilCheck (.tmp s2), y3, p3, f3, none⟩, ⟨some s4, .load T (.tmp s3), y4, p4, f4, none⟩,
      ⟨dst, .call ⟨.value (.func g), #[.tmp s1, .tmp s4, .func h], tys⟩, y5, p5, f5, none⟩] false) (.strs t) 0 := by
  intro Q a w χ be oe base bx ox at_ vn vs ns ss hfr hinv hat hfar he hroom hQ
  obtain ⟨h1, h2, h3, h4, l1, l2, l3, l4, d12, d13, d14⟩ := slots_of hsl
  have hz := hfr.size
  obtain ⟨ao, l, c, hc, hlc, hl100, hcb, hrow0⟩ := hat.strs hinv.1 htau
  have hrow : RowAt χ .str ao l := by
    rcases hrow0 with ⟨rfl, rfl⟩ | ⟨b', o', rfl, h4, h5⟩
    · exact .inl rfl
    · exact .inr ⟨b', o', rfl, fun i hi' => h5 i (by omega)⟩
  refine wp_region (wpOps5 rfl rfl rfl rfl rfl ?_)
  refine wp_move rfl (wp_move rfl (wp_nilCheck (ad := ⟨bx, ox, none⟩) rfl ?_ (wp_load1 (ad := ⟨bx, ox, none⟩) rfl hagg ?_ hc (wp_callF rfl rfl hfn hb hname (vs := #[.pointer (some ⟨be, oe, none⟩), .slice ao l c, .func (.func h) #[] #[]]) ?_ ?_))))
  · rw [eval_put, if_pos ⟨rfl, by simp only [put_size]; omega⟩]
    rw [eval_put, if_neg (by omega)]; exact hfr.x
  · rw [eval_put, if_pos ⟨rfl, by simp only [put_size]; omega⟩]
  · simp only [List.map_toArray, List.map_cons, List.map_nil]
    congr 1
    rw [eval_put, if_neg (by omega), eval_put, if_neg (by omega), eval_put, if_neg (by omega), eval_put, if_pos ⟨rfl, by omega⟩, eval_put, if_pos ⟨rfl, by simp only [put_size]; omega⟩]
    rw [show a.eval (.tmp 0) = _ from hfr.e]
    rfl
  · refine (hall w χ be oe base ao l c at_ vn vs ns ss hinv hrow hl100 hfar he hroom).mono ?_
    rintro en w' ⟨rfl, hm⟩
    refine ⟨_, rfl, hQ _ _ ?_ hm⟩
    exact (((((hfr.put (fun d h => by cases h; exact h1) _).put (fun d h => by cases h; exact h2) _).put (fun d h => by cases h; exact h3) _).put (fun d h => by cases h; exact h4) _).put hdst _)

end Go.Sx

namespace Go.Sx
open Go

theorem globW_int {P : Program} {W : World} {g t : Nat} {k : IntKind} {lo hi : Int} (h : W.ShapedOpen P) (zero : Array Value) (hg : g < P.globals.size)
    (h0 : ((begin P (fun _ _ => 0) default).world.heap[g]?).bind Obj.row? = some (zero, t)) (hz : zero.size = 1)
    (hb : P.buildable t = true) (hc : P.cellTypes P.depth t = some [t]) (hu : P.underlying t = some (.int k)) (hlo : k.min = lo) (hhi : k.max = hi) :
    ∃ cs E fz, W.heap[g]? = some (.cells cs E fz) ∧ (∀ (χ : Chi) (S : Nat → Prop), TypedBy P χ S cs (kkOf [.int k lo hi])) ∧ ([CT.int k lo hi] = [.any] → ∃ t v, cs = #[.iface t v]) := by
  obtain ⟨cs, hh, hs, hr⟩ := h.1 g zero t hg h0
  obtain ⟨ts, hts, _, hall⟩ := hr hb
  rw [hc] at hts
  cases hts
  have h1 : 0 < cs.size := by omega
  obtain ⟨u, hu', hok⟩ := hall 0 cs[0] (by simp [h1])
  have : u = t := by simpa using hu'.symm
  subst this
  refine ⟨cs, _, _, hh, fun χ S i => ?_, fun e => by cases e⟩
  unfold Cell.ok at hok
  rw [hu] at hok
  cases i with
  | zero =>
    have hcs : cs[0]? = some cs[0] := by simp [h1]
    rw [hcs]
    cases hv : cs[0] <;> rw [hv] at hok <;> simp at hok
    case int k' n =>
      obtain ⟨rfl, hn⟩ := hok
      refine ⟨n, rfl, ?_⟩
      simpa [IntKind.has, hlo, hhi] using hn
  | succ i =>
    have hcs : cs[i + 1]? = none := Array.getElem?_eq_none (by omega)
    rw [hcs]
    trivial

theorem returns_both {H : Type} {enc : TypeId × Value → H} {a : Assume} {C : Checked} {os : Os} {f : FuncId} {fn : Func} {s : ChangeSpec} {conds : List PathCond} {apart fresh handsOn again : Bool} {X : World → Array Value → Prop}
    (hX : ∀ (w w' : World) (args : Array Value), w.heap = w'.heap → X w args → X w' args)
    (own : ownKnob C.prog.godebug = none) (started : os.Started) (noInit : C.prog.inits.idxOf? f = none) (hfn : C.prog.funcs[f]? = some fn)
    (witness : ∃ (w : World) (tape : Tape) (i : Input), w.os = os ∧ (w.forCall tape i).Shaped C.prog ∧ i.vars = [] ∧ Input.okWide C.prog (w.forCall tape i) .any w.heap.size f i ∧
      ((s.pre enc C.prog fn conds apart (w.forCall tape i).memory i.args ∧ X (w.forCall tape i).memory i.args) ∧ sizedMet enc C.prog fn (OpenSpec.ofChange s) apart (w.forCall tape i).memory i.args) ∧ a.holds C.prog (lone (Frame.enter C.prog f i.args .normal) [] (w.forCall tape i)))
    (contract : ∀ (W : World) (base : Nat) (args : Array Value) (ds gs : List (DataW H)) (before : List MemPlace),
      (∀ (j : Nat) t v, fn.params[j]? = some t → args[j]? = some v → Value.okWide C.prog W .any base t v) →
      DataW.Whole enc C.prog fn.params.toList s.vars apart W args.toList ds gs before →
      conds.all (PathCond.test C.prog ⟨fn.params.toList, ds, s.plain.varTypes C.prog, gs⟩) = true →
      (DataW.weightsEach C.prog (fn.params.toList ++ s.plain.varTypes C.prog) (ds ++ gs)).all (· ≤ reachBytes) = true → X W args → W.ShapedOpen C.prog →
      a.holds C.prog (lone (Frame.enter C.prog f args .normal) [] W) →
      Calls C.prog f args W fun e W' => ∃ v, e = .returned v ∧ s.post enc C.prog fn apart fresh handsOn again W args v W') :
    ReturnsInHanded a C os f .any (fun w args => (s.pre enc C.prog fn conds apart w args ∧ X w args) ∧ sizedMet enc C.prog fn (OpenSpec.ofChange s) apart w args) (s.post enc C.prog fn apart fresh handsOn again) := by
  refine returnsInHanded_of_calls own started noInit witness ?_
  intro w tape i _ hsh _ hok hpre hholds
  obtain ⟨_, _, _, fn', hfn', _, _, _, _, hval⟩ := hok
  have e : fn' = fn := Option.some.inj (hfn'.symm.trans hfn)
  subst e
  obtain ⟨⟨⟨ds, gs, before, hw, hc⟩, hx⟩, hz⟩ := hpre
  have hw' := DataW.Whole.of_heap (w' := w.forCall tape i) (by rfl) hw
  refine (contract (w.forCall tape i) w.heap.size i.args ds gs before hval hw' hc (hz.weights hw) (hX _ _ _ (by rfl) hx) hsh hholds).mono fun e W' ⟨v, he, hp⟩ => ?_
  subst he
  exact ChangeSpec.post_blind hp

end Go.Sx
