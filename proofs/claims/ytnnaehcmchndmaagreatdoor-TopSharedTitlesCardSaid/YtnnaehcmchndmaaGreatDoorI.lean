/- Part I of a proof: helper lemmas; no conditions. -/
import Derived.Test.YtnnaehcmchndmaaGreatDoorH
import Derived.Laws.OwnMore
import Derived.DataReads
import Derived.ChangeOld
import Derived.ChangeArms
import Derived.ChangeSame
import Derived.ChangeStays

set_option linter.unusedSimpArgs false
set_option linter.unusedVariables false

namespace Go.Sx
open Go

structure Clos where
  f : Nat
  b : Nat
  o : Nat
  d : D
  deriving Inhabited

def Clos.val (c : Clos) : Value := .func (.func c.f) #[] #[.pointer (some ⟨c.b, c.o, none⟩)]

def Clos.seen (w : World) (c : Clos) : Seen := Go.Sx.seen w c.d c.b c.o ([], [])

structure ClosOK (P : Program) (T3 T9 : Nat) (w : World) (c : Clos) : Prop where
  see : SeeOK P T3 T9 c.f c.d
  room : Room c.d [] []
  call : callable P c.f = true
  mem : ∃ Z : Nat → Prop, Rd Z w c.d c.b c.o ∧ ∀ b, Z b → b < w.heap.size

structure Eye1 (T3 T9 lo : Nat) (w : World) (be oe : Nat) (st : Seen) : Prop where
  h : ∃ vn vs base at_, w.cell? ⟨be, oe, none⟩ = some vn ∧ w.cell? ⟨be, oe + 1, none⟩ = some vs ∧ w.cell? ⟨be, oe + 2, none⟩ = some (.bool false) ∧ w.cell? ⟨be, oe + 3, none⟩ = some (.int .i64 at_) ∧
    w.ownsRow base T3 1 vn st.1.length (st.1.map (.int .i64)) ∧ w.ownsRow base T9 1 vs st.2.length (st.2.map .string) ∧ (∀ b, vn.ownBlock = some b → b ≠ be) ∧ (∀ b, vs.ownBlock = some b → b ≠ be) ∧ lo ≤ base ∧ lo ≤ be

structure LookRel (T3 T9 : Nat) (w : World) (ob n : Nat) (cl : List Clos) (k i : Nat) (wr : World) : Prop where
  ik : i + k = n
  len : cl.length = n
  grown : w.grownBy wr none
  ge : w.heap.size ≤ ob
  lt : ob < wr.heap.size
  frz : ∀ o, wr.frozen? ⟨ob, o, none⟩ = false
  done : ∀ j c, j < i → cl[j]? = some c → Eye1 T3 T9 w.heap.size wr ob (j * 4) (c.seen w)
  new : ∀ j, i ≤ j → j < n → wr.cell? ⟨ob, j * 4, none⟩ = some (.slice none 0 0) ∧ wr.cell? ⟨ob, j * 4 + 1, none⟩ = some (.slice none 0 0) ∧ wr.cell? ⟨ob, j * 4 + 2, none⟩ = some (.bool false) ∧ wr.cell? ⟨ob, j * 4 + 3, none⟩ = some (.int .i64 0)

theorem ownsRow_old {w w' : World} {base base' e size : Nat} {v : Value} {n : Nat} {xs : List Value} (h : w.ownsRow base e size v n xs) (hs : ∀ b, v.ownBlock = some b → w'.heap[b]? = w.heap[b]?) : w'.ownsRow base e size v n xs := by
  refine ⟨h.1, ?_⟩
  rcases h.2 with hn | ⟨g, cap, cur, rfl, h1, h2, h3⟩
  · exact .inl hn
  · exact .inr ⟨g, cap, cur, rfl, h1, by rw [hs g rfl]; exact h2, h3⟩

theorem ownsRow_lt {w : World} {base e size : Nat} {v : Value} {n : Nat} {xs : List Value} (h : w.ownsRow base e size v n xs) : ∀ b, v.ownBlock = some b → b < w.heap.size := fun b hb => (h.lt b hb).2

theorem LookRel.round {P : Program} {T3 T9 : Nat} {w : World} {ob n : Nat} {cl : List Clos} {k i : Nat} {wr : World} (hr : LookRel T3 T9 w ob n cl (k + 1) i wr) {c : Clos} (hc : cl[i]? = some c) (hok : ClosOK P T3 T9 w c) :
    Calls P c.f #[.pointer (some ⟨ob, i * 4, none⟩), .pointer (some ⟨c.b, c.o, none⟩)] wr fun en w' => en = .returned (.tuple #[]) ∧ LookRel T3 T9 w ob n cl k (i + 1) w' := by
  obtain ⟨Z, hat, hlt⟩ := hok.mem
  have hin : i < n := by have := hr.ik; omega
  have hsame : ∀ b, Z b → wr.heap[b]? = w.heap[b]? := fun b hb => hr.grown.block b (hlt b hb) (by simp)
  obtain ⟨n0, n1, n2, n3⟩ := hr.new i (Nat.le_refl _) hin
  have heye : EyeAt T3 T9 wr ob (i * 4) wr.heap.size false 0 (.slice none 0 0) (.slice none 0 0) [] [] :=
    ⟨n0, n1, n2, n3, hr.frz _, hr.frz _, hr.frz _, hr.frz _, World.ownsRow_nil _ _ _ _, World.ownsRow_nil _ _ _ _, fun b h => by simp [Value.ownBlock] at h, hr.lt, Nat.le_refl _⟩
  have hfar : Far Z ob wr.heap.size := fun b hb => ⟨Nat.lt_of_lt_of_le (hlt b hb) hr.grown.size, by have := hlt b hb; have := hr.ge; omega⟩
  refine (hok.see wr Z ob (i * 4) wr.heap.size c.b c.o 0 _ _ [] [] (hat.same hsame c.d) hfar heye hok.room).mono ?_
  rintro en w' ⟨rfl, hk, vn, vs, he⟩
  rw [seen_same hsame c.d hat] at he
  have hold : ∀ b, b < wr.heap.size → b ≠ ob → w'.heap[b]? = wr.heap[b]? := hk.old
  refine ⟨rfl, ⟨by have := hr.ik; omega, hr.len, ?_, hr.ge, Nat.lt_of_lt_of_le hr.lt hk.size, ?_, ?_, ?_⟩⟩
  · exact ⟨hk.os.trans hr.grown.os, hk.tape.trans hr.grown.tape, hk.output.trans hr.grown.output, Nat.le_trans hr.grown.size hk.size,
      fun b hb hn => (hold b (Nat.lt_of_lt_of_le hb hr.grown.size) (by have := hr.ge; omega)).trans (hr.grown.block b hb hn)⟩
  · intro o; rw [hk.frz]; exact hr.frz o
  · intro j c' hj hc'
    rcases Nat.lt_or_ge j i with hji | hji
    · obtain ⟨vn', vs', base', at', q0, q1, q2, q3, q4, q5, q6, q7, q8⟩ := (hr.done j c' hji hc').h
      refine ⟨vn', vs', base', at', ?_, ?_, ?_, ?_, ?_, ?_, q6, q7, q8⟩
      · rw [hk.cell _ (by omega)]; exact q0
      · rw [hk.cell _ (by omega)]; exact q1
      · rw [hk.cell _ (by omega)]; exact q2
      · rw [hk.cell _ (by omega)]; exact q3
      · exact ownsRow_old (base' := base') q4 fun b hb => hold b (ownsRow_lt q4 b hb) (q6 b hb)
      · exact ownsRow_old (base' := base') q5 fun b hb => hold b (ownsRow_lt q5 b hb) (q7 b hb)
    · have : j = i := by omega
      subst this
      rw [hc] at hc'
      cases hc'
      refine ⟨vn, vs, wr.heap.size, 0, he.c0, he.c1, he.c2, he.c3, he.on, he.os, fun b hb => ?_, fun b hb => ?_, hr.grown.size, hr.ge⟩
      · have := (he.on.lt b hb).1; have := hr.lt; omega
      · have := (he.os.lt b hb).1; have := hr.lt; omega
  · intro j hj hjn
    obtain ⟨m0, m1, m2, m3⟩ := hr.new j (by omega) hjn
    refine ⟨?_, ?_, ?_, ?_⟩
    · rw [hk.cell _ (by omega)]; exact m0
    · rw [hk.cell _ (by omega)]; exact m1
    · rw [hk.cell _ (by omega)]; exact m2
    · rw [hk.cell _ (by omega)]; exact m3

def ClosRow (w : World) (v : Value) (cl : List Clos) : Prop :=
  (cl = [] ∧ v = .slice none 0 0) ∨ ∃ lb c, v = .slice (some ⟨lb, 0, none⟩) cl.length c ∧ lb < w.heap.size ∧ ∀ i c, cl[i]? = some c → w.cell? ⟨lb, i, none⟩ = some c.val

def EyeRow (T3 T9 lo : Nat) (w : World) (v : Value) (sts : List Seen) : Prop :=
  ∃ ob, v = .slice (some ⟨ob, 0, none⟩) sts.length sts.length ∧ ∀ i st, sts[i]? = some st → Eye1 T3 T9 lo w ob (i * 4) st

theorem LookRel.drew {T3 T9 : Nat} {w : World} {ob n : Nat} {cl : List Clos} {k i : Nat} {wr : World} (hr : LookRel T3 T9 w ob n cl k i wr) : LookRel T3 T9 w ob n cl k i wr.drew :=
  ⟨hr.ik, hr.len, ⟨hr.grown.os, hr.grown.tape, hr.grown.output, hr.grown.size, hr.grown.block⟩, hr.ge, hr.lt, hr.frz, fun j c hj hc => ⟨(hr.done j c hj hc).h⟩, hr.new⟩

def eyeZ : Array Value := #[.slice none 0 0, .slice none 0 0, .bool false, .int .i64 0]

theorem made_get {n i : Nat} (h : i < n) : (madeCells eyeZ n)[i]? = some (eyeZ[i % 4]!) := by
  simp only [madeCells, Array.getElem?_map]
  rw [Array.getElem?_range]
  simp only [h, if_true, Option.map_some]
  rfl

theorem look_start {T3 T9 : Nat} (w : World) (cl : List Clos) (E : Nat) : LookRel T3 T9 w w.heap.size cl.length cl cl.length 0 (w.alloc (.cells (madeCells eyeZ (cl.length * 4)) E)) := by
  have hb : (w.alloc (.cells (madeCells eyeZ (cl.length * 4)) E)).heap[w.heap.size]? = some (.cells (madeCells eyeZ (cl.length * 4)) E (0, 0)) := by rw [alloc_get, if_pos rfl]
  refine ⟨by omega, rfl, grown_alloc w _, Nat.le_refl _, lt_of_blk hb, fun o => ?_, fun j c hj => by omega, fun j _ hj => ?_⟩
  · rw [frozen?_blk hb]; simp
  · have hm : ∀ r, r < 4 → (w.alloc (.cells (madeCells eyeZ (cl.length * 4)) E)).cell? ⟨w.heap.size, j * 4 + r, none⟩ = some (eyeZ[r]!) := by
      intro r hr
      rw [cell?_blk hb, made_get (by omega), show (j * 4 + r) % 4 = r by omega]
    exact ⟨hm 0 (by omega), hm 1 (by omega), hm 2 (by omega), hm 3 (by omega)⟩

theorem LookRel.out {T3 T9 : Nat} {w : World} {ob n : Nat} {cl : List Clos} {i : Nat} {wr : World} (hr : LookRel T3 T9 w ob n cl 0 i wr) : w.grownBy wr none ∧ EyeRow T3 T9 w.heap.size wr (.slice (some ⟨ob, 0, none⟩) n n) (cl.map (Clos.seen w)) := by
  refine ⟨hr.grown, ob, by rw [List.length_map, hr.len], fun j st hst => ?_⟩
  rw [List.getElem?_map] at hst
  cases hc : cl[j]? with
  | none => rw [hc] at hst; cases hst
  | some c =>
    rw [hc] at hst
    cases hst
    have hj : j < cl.length := (List.getElem?_eq_some_iff.1 hc).1
    exact hr.done j c (by have := hr.ik; have := hr.len; omega) hc

end Go.Sx

namespace Go.Sx
open Go

structure KeepsM (A : Nat → Prop) (w w' : World) (be base : Nat) : Prop where
  os : w'.os = w.os
  tape : w'.tape = w.tape
  output : w'.output = w.output
  size : w.heap.size ≤ w'.heap.size
  old : ∀ b, b < base → b ≠ be → ¬ A b → w'.heap[b]? = w.heap[b]?

theorem KeepsM.refl (A : Nat → Prop) (w : World) (be base : Nat) : KeepsM A w w be base := ⟨rfl, rfl, rfl, Nat.le_refl _, fun _ _ _ _ => rfl⟩

theorem KeepsM.trans {A : Nat → Prop} {w w' w'' : World} {be base : Nat} (h : KeepsM A w w' be base) (k : KeepsM A w' w'' be base) : KeepsM A w w'' be base :=
  ⟨k.os.trans h.os, k.tape.trans h.tape, k.output.trans h.output, Nat.le_trans h.size k.size, fun b hb hn ha => (k.old b hb hn ha).trans (h.old b hb hn ha)⟩

theorem Keeps.m {w w' : World} {be oe base : Nat} (h : Keeps w w' be oe base) (A : Nat → Prop) : KeepsM A w w' be base := ⟨h.os, h.tape, h.output, h.size, fun b hb hn _ => h.old b hb hn⟩

structure Grew (d : D) (ns : List Int) (ss : List ByteArray) (ns' : List Int) (ss' : List ByteArray) : Prop where
  n : ns.length ≤ ns'.length
  n1 : d.num = true → ns.length + 1 ≤ ns'.length
  top : ns'.length ≤ max ns.length 200000 + d.bnd
  s : ss'.length ≤ ss.length + d.co * (ns'.length - ns.length + 1)
  mn : ns.length + d.mn ≤ ns'.length

theorem Grew.seq {x y : D} {ns ns1 ns2 : List Int} {ss ss1 ss2 : List ByteArray} (h : Grew x ns ss ns1 ss1) (k : Grew y ns1 ss1 ns2 ss2) : Grew (.seq x y) ns ss ns2 ss2 := by
  obtain ⟨h1, h2, h3, h4, h5⟩ := h
  obtain ⟨k1, k2, k3, k4, k5⟩ := k
  refine ⟨by omega, fun hn => ?_, ?_, ?_, by simp only [D.mn]; omega⟩
  · simp only [D.num, Bool.or_eq_true] at hn
    rcases hn with hn | hn
    · have := h2 hn; omega
    · have := k2 hn; omega
  · simp only [D.bnd]; omega
  · simp only [D.co]
    have e1 : x.co * (ns1.length - ns.length + 1) ≤ x.co * (ns2.length - ns.length + 1) := Nat.mul_le_mul_left _ (by omega)
    have e2 : y.co * (ns2.length - ns1.length + 1) ≤ y.co * (ns2.length - ns.length + 1) := Nat.mul_le_mul_left _ (by omega)
    rw [Nat.add_mul]; omega

theorem Room.next {x y : D} {ns ns' : List Int} {ss ss' : List ByteArray} (h : Room (.seq x y) ns ss) (g : Grew x ns ss ns' ss') : Room y ns' ss' := by
  obtain ⟨h1, h2, h0⟩ := h
  simp only [D.bnd, D.co] at h1 h2
  rw [Nat.add_mul] at h2
  obtain ⟨g1, g2, g3, g4, g5⟩ := g
  refine ⟨by omega, ?_, y.fit_mono h0.2 g5⟩
  have hm := RM_eq
  have : x.co * (ns'.length - ns.length + 1) ≤ x.co * RM := Nat.mul_le_mul_left _ (by rw [← hm]; omega)
  generalize x.co * RM = u at *
  generalize y.co * RM = v at *
  omega

def MarkEnd (P : Program) (T3 T9 : Nat) (χ : Chi) (w : World) (be oe base : Nat) (d : D) (ns : List Int) (ss : List ByteArray) (w' : World) : Prop :=
  KeepsM χ.A w w' be base ∧ InvF P χ w' ∧ ∃ at' vn vs ns' ss', EyeAt T3 T9 w' be oe base true at' vn vs ns' ss' ∧ Grew d ns ss ns' ss'

def MarkOK (P : Program) (T3 T9 f : Nat) (d : D) : Prop :=
  ∀ (w : World) (χ : Chi) (be oe base bx ox : Nat) (at_ : Int) (vn vs : Value) (ns : List Int) (ss : List ByteArray), InvF P χ w → At χ d bx ox → Far χ.A be base → EyeAt T3 T9 w be oe base true at_ vn vs ns ss → Room d ns ss →
    Calls P f #[.pointer (some ⟨be, oe, none⟩), .pointer (some ⟨bx, ox, none⟩)] w fun e w' => e = .returned (.tuple #[]) ∧ MarkEnd P T3 T9 χ w be oe base d ns ss w'

def MarkCode (P : Program) (T3 T9 n : Nat) (c : Code) (d : D) (off : Nat) : Prop :=
  ∀ (Q : Exit → Act → World → Prop) (a : Act) (w : World) (χ : Chi) (be oe base bx ox : Nat) (at_ : Int) (vn vs : Value) (ns : List Int) (ss : List ByteArray), Fr a n be oe bx ox → InvF P χ w → At χ d bx (ox + off) → Far χ.A be base →
    EyeAt T3 T9 w be oe base true at_ vn vs ns ss → Room d ns ss →
    (∀ a' w', Fr a' n be oe bx ox → MarkEnd P T3 T9 χ w be oe base d ns ss w' → Q .normal a' w') → c.wp P Q a w

theorem MarkCode.seq {P : Program} {T3 T9 n : Nat} {c1 c2 : Code} {d1 d2 : D} {off : Nat} (h1 : MarkCode P T3 T9 n c1 d1 off) (h2 : MarkCode P T3 T9 n c2 d2 (off + d1.size)) : MarkCode P T3 T9 n (.seq c1 c2) (.seq d1 d2) off := by
  intro Q a w χ be oe base bx ox at_ vn vs ns ss hfr hinv hat hfar he hroom hQ
  refine wp_seq (h1 _ a w χ be oe base bx ox at_ vn vs ns ss hfr hinv hat.fst hfar he hroom.fst ?_)
  rintro a' w' hfr' ⟨hk, hinv', at', vn', vs', ns', ss', he', hg⟩
  have hat2 : At χ d2 bx (ox + (off + d1.size)) := by rw [← Nat.add_assoc]; exact hat.snd
  refine h2 Q a' w' χ be oe base bx ox at' vn' vs' _ _ hfr' hinv' hat2 hfar he' (hroom.next hg) ?_
  rintro a'' w'' hfr'' ⟨hk', hinv'', at'', vn'', vs'', ns'', ss'', he'', hg'⟩
  exact hQ a'' w'' hfr'' ⟨hk.trans hk', hinv'', at'', vn'', vs'', ns'', ss'', he'', hg.seq hg'⟩

theorem MarkCode.fieldB {P : Program} {T3 T9 n id s1 s2 s3 s4 T i g off : Nat} {dst : Option Tmp} {y1 y2 y3 y4 y5 : Nat} {p1 p2 p3 p4 p5 : String} {f1 f2 f3 f4 f5 : Array Edge} {tys : Array Nat} {d : D}
    (hsee : MarkOK P T3 T9 g d) (hsl : slotsB n s1 s2 s3 s4 = true) (hdst : ∀ x, dst = some x → 2 ≤ x) (hff : fieldAtP P T i off = true) (hcc : callable P g = true) :
    MarkCode P T3 T9 n (.region id #[⟨some s1, .move (.tmp 0), y1, p1, f1, none⟩, ⟨some s2, .move (.tmp 1), y2, p2, f2, none⟩, ⟨some s3, .nilCheck (.tmp s2), y3, p3, f3, none⟩, ⟨some s4, .fieldAddr T (.tmp s3) i, y4, p4, f4, none⟩,
      ⟨dst, .call ⟨.value (.func g), #[.tmp s1, .tmp s4], tys⟩, y5, p5, f5, none⟩] false) d off := by
  obtain ⟨fs, f, sz, hu, hf, rfl, hsz⟩ := fieldAtP_ok hff
  obtain ⟨fn, hfn, hb, hname⟩ := callable_ok hcc
  intro Q a w χ be oe base bx ox at_ vn vs ns ss hfr hinv hat hfar he hroom hQ
  obtain ⟨h1, h2, h3, h4, l1, l2, l3, l4, d12, d13, d14⟩ := slots_of hsl
  have hz := hfr.size
  refine wp_region (wpOps5 rfl rfl rfl rfl rfl ?_)
  refine wp_move rfl (wp_move rfl (wp_nilCheck (ad := ⟨bx, ox, none⟩) rfl ?_ (wp_fieldAddr (b := bx) (off := ox) rfl hu hf hsz ?_ (wp_callF rfl rfl hfn hb hname (vs := #[.pointer (some ⟨be, oe, none⟩), .pointer (some ⟨bx, ox + f.offset, none⟩)]) ?_ ?_))))
  · rw [eval_put, if_pos ⟨rfl, by simp only [put_size]; omega⟩]
    rw [eval_put, if_neg (by omega)]; exact hfr.x
  · rw [eval_put, if_pos ⟨rfl, by simp only [put_size]; omega⟩]
  · simp only [List.map_toArray, List.map_cons, List.map_nil]
    congr 1
    rw [eval_put, if_neg (by omega), eval_put, if_neg (by omega), eval_put, if_neg (by omega), eval_put, if_pos ⟨rfl, by omega⟩, eval_put, if_pos ⟨rfl, by simp only [put_size]; omega⟩]
    rw [show a.eval (.tmp 0) = _ from hfr.e]
  · refine (hsee w χ be oe base bx (ox + f.offset) at_ vn vs ns ss hinv hat hfar he hroom).mono ?_
    rintro e w' ⟨rfl, hm⟩
    refine ⟨_, rfl, hQ _ _ ?_ hm⟩
    exact (((((hfr.put (fun d h => by cases h; exact h1) _).put (fun d h => by cases h; exact h2) _).put (fun d h => by cases h; exact h3) _).put (fun d h => by cases h; exact h4) _).put hdst _)

theorem MarkCode.handed {P : Program} {T3 T9 n id s1 g : Nat} {dst : Option Tmp} {y1 y5 : Nat} {p1 p5 : String} {f1 f5 : Array Edge} {tys : Array Nat} {d : D} {fn : Func}
    (hs1 : (Nat.ble 2 s1 && Nat.blt s1 n) = true) (hdst : ∀ x, dst = some x → 2 ≤ x) (hfn : P.funcs[g]? = some fn) (hb : fn.body.isSome = true) (hname : (fn.name == "runtime.NumGoroutine") = false) (hsee : MarkOK P T3 T9 g d) :
    MarkCode P T3 T9 n (.region id #[⟨some s1, .move (.tmp 0), y1, p1, f1, none⟩, ⟨dst, .call ⟨.value (.func g), #[.tmp s1, .tmp 1], tys⟩, y5, p5, f5, none⟩] false) d 0 := by
  intro Q a w χ be oe base bx ox at_ vn vs ns ss hfr hinv hat hfar he hroom hQ
  simp only [Bool.and_eq_true, Nat.ble_eq, Nat.blt_eq] at hs1
  have hz := hfr.size
  refine wp_region (wpOps2 rfl rfl ?_)
  refine wp_move rfl (wp_callF rfl rfl hfn hb hname (vs := #[.pointer (some ⟨be, oe, none⟩), .pointer (some ⟨bx, ox, none⟩)]) ?_ ?_)
  · simp only [List.map_toArray, List.map_cons, List.map_nil]
    congr 1
    rw [eval_put, if_pos ⟨rfl, by omega⟩, eval_put, if_neg (by omega)]
    rw [show a.eval (.tmp 0) = _ from hfr.e, show a.eval (.tmp 1) = _ from hfr.x]
  · refine (hsee w χ be oe base bx ox at_ vn vs ns ss hinv hat hfar he hroom).mono ?_
    rintro e w' ⟨rfl, hm⟩
    exact ⟨_, rfl, hQ _ _ ((hfr.put (fun d h => by cases h; exact hs1.1) _).put hdst _) hm⟩

theorem MarkOK.of_code {P : Program} {T3 T9 f n : Nat} {fn : Func} {c : Code} {d : D} (hf : P.funcs[f]? = some fn) (hb : fn.body = some c) (hn : fn.ntmps = n) (hn2 : 2 ≤ n) (hr : fn.results = #[]) (h : MarkCode P T3 T9 n c d 0) : MarkOK P T3 T9 f d := by
  intro w χ be oe base bx ox at_ vn vs ns ss hinv hat hfar he hroom
  refine calls_of_wp hf hb ?_
  refine h _ _ w χ be oe base bx ox at_ vn vs ns ss ⟨?_, rfl, ?_, ?_⟩ hinv hat hfar he hroom ?_
  · simp [hn]; omega
  · simp [Array.getD_eq_getD_getElem?, Array.getElem?_append]
  · simp [Array.getD_eq_getD_getElem?, Array.getElem?_append]
  · intro a' w' hfr hm
    refine ⟨hfr.defers, .tuple #[], ?_, rfl, hm⟩
    simp [results, hr]

def RowAt (χ : Chi) (e : D) (ao : Option Addr) (l : Nat) : Prop :=
  l = 0 ∨ ∃ b' o', ao = some ⟨b', o', none⟩ ∧ ∀ i, i < l → At χ e b' (o' + i * e.size)

structure AllMRel (P : Program) (T3 T9 : Nat) (χ : Chi) (w : World) (be oe base l n0 s0 : Nat) (e : D) (k i : Nat) (wr : World) (at_ : Int) (vn vs : Value) (ns : List Int) (ss : List ByteArray) : Prop where
  ik : i + k = l
  keeps : KeepsM χ.A w wr be base
  inv : InvF P χ wr
  eye : EyeAt T3 T9 wr be oe base true at_ vn vs ns ss
  n : n0 + i ≤ ns.length
  top : ns.length ≤ max n0 (200000 + e.bnd)
  s : ss.length ≤ s0 + 2 * e.co * (ns.length - n0)

section
variable {P : Program} {T3 T9 h t : Nat} {w : World} {χ : Chi} {be oe base : Nat} {at_ : Int} {e : D} {ao : Option Addr} {l k i n0 s0 : Nat} {ns : List Int} {ss : List ByteArray} {wr : World} {vn vs : Value}

theorem AllMRel.out {ns0 : List Int} {ss0 : List ByteArray} (hr : AllMRel P T3 T9 χ w be oe base l (ns0.length + 1) ss0.length e k i wr at_ vn vs ns ss) : MarkEnd P T3 T9 χ w be oe base (.row t e) ns0 ss0 wr := by
  refine ⟨hr.keeps, hr.inv, at_, vn, vs, ns, ss, hr.eye, ?_, ?_, ?_, ?_, by have := hr.n; simp only [D.mn]; omega⟩
  · have := hr.n; omega
  · intro _; have := hr.n; omega
  · have := hr.top; simp only [D.bnd]; omega
  · have := hr.s
    simp only [D.co]
    have e1 : 2 * e.co * (ns.length - (ns0.length + 1)) ≤ 2 * e.co * (ns.length - ns0.length + 1) := Nat.mul_le_mul_left _ (by omega)
    omega

theorem AllMRel.round (hnum : e.num = true) (hrow : RowAt χ e ao l) (hfar : Far χ.A be base) (hn0 : max n0 200000 + e.bnd ≤ 1000000) (hs0 : s0 + 2 * e.co * RM ≤ 1000000000) (hf0 : 200000 ≤ n0 ∨ e.fit n0) (hsee : MarkOK P T3 T9 h e)
    (hr : AllMRel P T3 T9 χ w be oe base l n0 s0 e (k + 1) i wr at_ vn vs ns ss) (hlt : ns.length < 200000) :
    ∃ b' o', ao = some ⟨b', o', none⟩ ∧ i < l ∧ Calls P h #[.pointer (some ⟨be, oe, none⟩), .pointer (some ⟨b', o' + i * e.size, none⟩)] wr fun en w' => en = .returned (.tuple #[]) ∧
      ∃ at' vn' vs' ns' ss', AllMRel P T3 T9 χ w be oe base l n0 s0 e k (i + 1) w' at' vn' vs' ns' ss' := by
  have hil : i < l := by have := hr.ik; omega
  rcases hrow with hl | ⟨b', o', rfl, hat⟩
  · omega
  · refine ⟨b', o', rfl, hil, ?_⟩
    have hati := hat i (by omega)
    have hRM := RM_eq
    have hn := hr.n
    have h3 := hr.s
    have hroom' : Room e ns ss := by
      have hfit : e.fit ns.length := by
        rcases hf0 with hf0 | hf0
        · omega
        · exact e.fit_mono hf0 (by omega)
      refine ⟨by omega, ?_, hfit⟩
      have h4 : 2 * e.co * (ns.length - n0) ≤ 2 * e.co * 200000 := Nat.mul_le_mul_left _ (by omega)
      have h5 : 2 * e.co * 200000 + e.co * RM ≤ 2 * e.co * RM := by
        rw [← hRM]
        have : 2 * e.co * 200000 = e.co * 400000 := by rw [Nat.mul_comm 2, Nat.mul_assoc]
        rw [this, ← Nat.mul_add, Nat.mul_comm 2, Nat.mul_assoc]
        exact Nat.mul_le_mul_left _ (by omega)
      generalize 2 * e.co * (ns.length - n0) = u at *
      generalize 2 * e.co * 200000 = v at *
      generalize e.co * RM = x at *
      generalize 2 * e.co * RM = y at *
      omega
    refine (hsee wr χ be oe base b' (o' + i * e.size) at_ vn vs ns ss hr.inv hati hfar hr.eye hroom').mono ?_
    rintro en w' ⟨rfl, hk, hinv', at', vn', vs', ns', ss', he', g1, g2, g3, g4, g5⟩
    have g2 := g2 hnum
    refine ⟨rfl, at', vn', vs', ns', ss', ⟨by have := hr.ik; omega, hr.keeps.trans hk, hinv', he', ?_, ?_, ?_⟩⟩
    · omega
    · omega
    · generalize ns'.length = a at *
      generalize ss'.length = b at *
      have e1 : e.co * (a - ns.length + 1) ≤ 2 * e.co * (a - ns.length) := by
        have : a - ns.length + 1 ≤ 2 * (a - ns.length) := by omega
        calc e.co * (a - ns.length + 1) ≤ e.co * (2 * (a - ns.length)) := Nat.mul_le_mul_left _ this
          _ = 2 * e.co * (a - ns.length) := by rw [Nat.mul_left_comm, Nat.mul_assoc]
      have e2 : 2 * e.co * (a - n0) = 2 * e.co * (a - ns.length) + 2 * e.co * (ns.length - n0) := by
        rw [← Nat.mul_add]; congr 1; omega
      omega

end

def AllMOK (P : Program) (T3 T9 g h t : Nat) (e : D) : Prop :=
  ∀ (w : World) (χ : Chi) (be oe base : Nat) (ao : Option Addr) (l c : Nat) (at_ : Int) (vn vs : Value) (ns : List Int) (ss : List ByteArray), InvF P χ w → RowAt χ e ao l → l ≤ maxLen → Far χ.A be base → EyeAt T3 T9 w be oe base true at_ vn vs ns ss → Room (.row t e) ns ss →
    Calls P g #[.pointer (some ⟨be, oe, none⟩), .slice ao l c, .func (.func h) #[] #[]] w fun en w' => en = .returned (.tuple #[]) ∧ MarkEnd P T3 T9 χ w be oe base (.row t e) ns ss w'

theorem At.rowAt {P : Program} {χ : Chi} {w : World} (hi : Inv P χ w) {t : Nat} {e : D} (he : tau P (.base t) = e.cts) {b o : Nat} (h : At χ (.row t e) b o) :
    ∃ ao l c, w.cell? ⟨b, o, none⟩ = some (.slice ao l c) ∧ l ≤ maxLen ∧ RowAt χ e ao l := by
  have hLB : LB ≤ maxLen := by unfold LB maxLen; omega
  obtain ⟨ao, l, c, hc, h1, h2, _, h3⟩ := h.row hi he
  refine ⟨ao, l, c, hc, by omega, ?_⟩
  rcases h3 with ⟨rfl, rfl⟩ | ⟨b', o', rfl, h4, h5⟩
  · exact .inl rfl
  · exact .inr ⟨b', o', rfl, fun i hi' => h5 i (by omega)⟩

theorem MarkCode.row {P : Program} {T3 T9 n id s1 s2 s3 s4 T t g h : Nat} {dst : Option Tmp} {y1 y2 y3 y4 y5 : Nat} {p1 p2 p3 p4 p5 : String} {f1 f2 f3 f4 f5 : Array Edge} {tys : Array Nat} {e : D} {fn : Func}
    (hsl : slotsB n s1 s2 s3 s4 = true) (hdst : ∀ x, dst = some x → 2 ≤ x) (hagg : aggOf P T = some false) (htau : tau P (.base t) = e.cts)
    (hfn : P.funcs[g]? = some fn) (hb : fn.body.isSome = true) (hname : (fn.name == "runtime.NumGoroutine") = false) (hall : AllMOK P T3 T9 g h t e) :
    MarkCode P T3 T9 n (.region id #[⟨some s1, .move (.tmp 0), y1, p1, f1, none⟩, ⟨some s2, .move (.tmp 1), y2, p2, f2, none⟩, ⟨some s3, .nilCheck (.tmp s2), y3, p3, f3, none⟩, ⟨some s4, .load T (.tmp s3), y4, p4, f4, none⟩,
      ⟨dst, .call ⟨.value (.func g), #[.tmp s1, .tmp s4, .func h], tys⟩, y5, p5, f5, none⟩] false) (.row t e) 0 := by
  intro Q a w χ be oe base bx ox at_ vn vs ns ss hfr hinv hat hfar he hroom hQ
  obtain ⟨h1, h2, h3, h4, l1, l2, l3, l4, d12, d13, d14⟩ := slots_of hsl
  have hz := hfr.size
  obtain ⟨ao, l, c, hc, hlb, hrow⟩ := At.rowAt hinv.1 htau hat
  refine wp_region (wpOps5 rfl rfl rfl rfl rfl ?_)
  refine wp_move rfl (wp_move rfl (wp_nilCheck (ad := ⟨bx, ox, none⟩) rfl ?_ (wp_load1 (ad := ⟨bx, ox, none⟩) rfl hagg ?_ hc (wp_callF rfl rfl hfn hb hname (vs := #[.pointer (some ⟨be, oe, none⟩), .slice ao l c, .func (.func h) #[] #[]]) ?_ ?_))))
  · rw [eval_put, if_pos ⟨rfl, by simp only [put_size]; omega⟩]
    rw [eval_put, if_neg (by omega)]; exact hfr.x
  · rw [eval_put, if_pos ⟨rfl, by simp only [put_size]; omega⟩]
  · simp only [List.map_toArray, List.map_cons, List.map_nil]
    congr 1
    rw [eval_put, if_neg (by omega), eval_put, if_neg (by omega), eval_put, if_neg (by omega), eval_put, if_pos ⟨rfl, by omega⟩, eval_put, if_pos ⟨rfl, by simp only [put_size]; omega⟩]
    rw [show a.eval (.tmp 0) = _ from hfr.e]
    rfl
  · refine (hall w χ be oe base ao l c at_ vn vs ns ss hinv hrow hlb hfar he hroom).mono ?_
    rintro en w' ⟨rfl, hm⟩
    refine ⟨_, rfl, hQ _ _ ?_ hm⟩
    exact (((((hfr.put (fun d h => by cases h; exact h1) _).put (fun d h => by cases h; exact h2) _).put (fun d h => by cases h; exact h3) _).put (fun d h => by cases h; exact h4) _).put hdst _)

structure ArrMRel (P : Program) (T3 T9 : Nat) (χ : Chi) (w : World) (be oe base n : Nat) (e : D) (ns0 : List Int) (ss0 : List ByteArray) (k i : Nat) (wr : World) (at_ : Int) (vn vs : Value) (ns : List Int) (ss : List ByteArray) : Prop where
  ik : i + k = n
  keeps : KeepsM χ.A w wr be base
  inv : InvF P χ wr
  eye : EyeAt T3 T9 wr be oe base true at_ vn vs ns ss
  g : Grew (rep e i) ns0 ss0 ns ss

theorem Grew.nil (ns : List Int) (ss : List ByteArray) : Grew .nil ns ss ns ss := ⟨Nat.le_refl _, (by simp [D.num]), (by omega), (by simp [D.co]), (by simp [D.mn])⟩

theorem At.rep {χ : Chi} {e : D} {b o : Nat} : ∀ {n i : Nat}, At χ (Go.Sx.rep e n) b o → i < n → At χ e b (o + i * e.size) := by
  intro n
  induction n with
  | zero => intro i _ h; omega
  | succ n ih =>
    intro i h hi
    cases n with
    | zero =>
      have : i = 0 := by omega
      subst this
      simpa [Go.Sx.rep] using h
    | succ n =>
      have e1 : Go.Sx.rep e (n + 1 + 1) = .seq (Go.Sx.rep e (n + 1)) e := rfl
      rw [e1] at h
      rcases Nat.lt_or_ge i (n + 1) with hlt | hge
      · exact ih h.fst hlt
      · have : i = n + 1 := by omega
        subst this
        have := h.snd
        rwa [rep_size] at this

theorem Grew.rep {e : D} {ns ns1 ns2 : List Int} {ss ss1 ss2 : List ByteArray} {i : Nat} (h : Grew (Go.Sx.rep e i) ns ss ns1 ss1) (k : Grew e ns1 ss1 ns2 ss2) : Grew (Go.Sx.rep e (i + 1)) ns ss ns2 ss2 := by
  cases i with
  | zero =>
    have := h.seq k
    obtain ⟨p1, p2, p3, p4, p5⟩ := this
    simp only [Go.Sx.rep, D.num, D.bnd, D.co, D.mn, Bool.false_or, Nat.zero_add] at *
    exact ⟨p1, p2, p3, p4, p5⟩
  | succ i => exact h.seq k

theorem rep_bnd (e : D) : ∀ n, (rep e n).bnd = n * e.bnd := by
  intro n
  induction n with
  | zero => simp [rep, D.bnd]
  | succ n ih =>
    cases n with
    | zero => simp [rep]
    | succ n => simp only [rep, D.bnd] at ih ⊢; rw [ih, ← Nat.succ_mul]

theorem rep_co (e : D) : ∀ n, (rep e n).co = n * e.co := by
  intro n
  induction n with
  | zero => simp [rep, D.co]
  | succ n ih =>
    cases n with
    | zero => simp [rep]
    | succ n => simp only [rep, D.co] at ih ⊢; rw [ih, ← Nat.succ_mul]

theorem rep_fit {e : D} {k : Nat} : ∀ {n i : Nat}, (Go.Sx.rep e n).fit k → i < n → (D.seq (Go.Sx.rep e i) e).fit k := by
  intro n
  induction n with
  | zero => intro i _ h; omega
  | succ n ih =>
    intro i h hi
    cases n with
    | zero =>
      have : i = 0 := by omega
      subst this
      exact ⟨trivial, h⟩
    | succ n =>
      have e1 : Go.Sx.rep e (n + 1 + 1) = .seq (Go.Sx.rep e (n + 1)) e := rfl
      rw [e1] at h
      rcases Nat.lt_or_ge i (n + 1) with hlt | hge
      · exact ih h.1 hlt
      · have : i = n + 1 := by omega
        subst this
        exact h

theorem Room.part {e : D} {n i : Nat} {ns : List Int} {ss : List ByteArray} (h : Room (Go.Sx.rep e n) ns ss) (hi : i < n) : Room (.seq (Go.Sx.rep e i) e) ns ss := by
  obtain ⟨h1, h2, h0⟩ := h
  rw [rep_bnd] at h1
  rw [rep_co] at h2
  have e1 : (i + 1) * e.bnd ≤ n * e.bnd := Nat.mul_le_mul_right _ hi
  have e2 : (i + 1) * e.co * RM ≤ n * e.co * RM := Nat.mul_le_mul_right _ (Nat.mul_le_mul_right _ hi)
  rw [Nat.succ_mul] at e1 e2
  refine ⟨?_, ?_, rep_fit h0 hi⟩
  · simp only [D.bnd, rep_bnd]; omega
  · simp only [D.co, rep_co]; omega

section
variable {P : Program} {T3 T9 h : Nat} {w : World} {χ : Chi} {be oe base : Nat} {at_ : Int} {e : D} {b o n k i : Nat} {ns ns0 : List Int} {ss ss0 : List ByteArray} {wr : World} {vn vs : Value}

theorem ArrMRel.out (hr : ArrMRel P T3 T9 χ w be oe base n e ns0 ss0 0 i wr at_ vn vs ns ss) : MarkEnd P T3 T9 χ w be oe base (rep e n) ns0 ss0 wr := by
  have : i = n := by have := hr.ik; omega
  subst this
  exact ⟨hr.keeps, hr.inv, at_, vn, vs, ns, ss, hr.eye, hr.g⟩

theorem ArrMRel.round (hat : At χ (rep e n) b o) (hfar : Far χ.A be base) (hroom : Room (rep e n) ns0 ss0) (hsee : MarkOK P T3 T9 h e)
    (hr : ArrMRel P T3 T9 χ w be oe base n e ns0 ss0 (k + 1) i wr at_ vn vs ns ss) :
    Calls P h #[.pointer (some ⟨be, oe, none⟩), .pointer (some ⟨b, o + i * e.size, none⟩)] wr fun en w' => en = .returned (.tuple #[]) ∧
      ∃ at' vn' vs' ns' ss', ArrMRel P T3 T9 χ w be oe base n e ns0 ss0 k (i + 1) w' at' vn' vs' ns' ss' := by
  have hil : i < n := by have := hr.ik; omega
  refine (hsee wr χ be oe base b (o + i * e.size) at_ vn vs _ _ hr.inv (At.rep hat hil) hfar hr.eye ((hroom.part hil).next hr.g)).mono ?_
  rintro en w' ⟨rfl, hk, hinv', at', vn', vs', ns', ss', he', hg⟩
  exact ⟨rfl, at', vn', vs', ns', ss', by have := hr.ik; omega, hr.keeps.trans hk, hinv', he', hr.g.rep hg⟩

end

theorem InvF.store {P : Program} {χ : Chi} {w : World} (hi : InvF P χ w) {d : D} {b o : Nat} {v : Value} {ct : CT} (h : At χ d b o) (hd : d.cts = [ct]) (hv : ∀ S, CellOK P χ S ct v) : InvF P χ (w.setCell ⟨b, o, none⟩ v) := by
  obtain ⟨cs, E, fz, hc, hk⟩ := hi.1.blockF b (hi.2 b h.1)
  have hsz : 0 < d.size := by rw [← D.cts_len, hd]; simp
  have hκ := h.2 0 hsz
  rw [hd] at hκ
  simp only [Nat.add_zero, List.getElem?_cons_zero] at hκ
  rw [setCell_blk hc]
  refine ⟨hi.1.setF (hi.2 b h.1) hc (by simp) fun i => ?_, hi.2⟩
  have hki := hk i
  simp only [Array.getElem?_setIfInBounds]
  by_cases e : o = i
  · subst e
    rw [hκ] at hki ⊢
    by_cases hlt : o < cs.size
    · simp only [hlt, if_true]; exact hv _
    · rw [Array.getElem?_eq_none (by omega)] at hki; exact hki.elim
  · simp only [e, if_false]; exact hki

theorem InvF.setInt {P : Program} {χ : Chi} {w : World} (hi : InvF P χ w) {k : IntKind} {b o : Nat} {z : Int} (h : At χ (.int k) b o) (h1 : k.min ≤ z) (h2 : z ≤ k.max) : InvF P χ (w.setCell ⟨b, o, none⟩ (.int k z)) :=
  hi.store h rfl fun _ => ⟨z, rfl, h1, h2⟩

theorem InvF.setBool {P : Program} {χ : Chi} {w : World} (hi : InvF P χ w) {b o : Nat} {z : Bool} (h : At χ .bool b o) : InvF P χ (w.setCell ⟨b, o, none⟩ (.bool z)) :=
  hi.store h rfl fun _ => ⟨z, rfl⟩

theorem InvF.setStr {P : Program} {χ : Chi} {w : World} (hi : InvF P χ w) {b o : Nat} {z : ByteArray} (h : At χ .str b o) (h1 : z.size ≤ LB) : InvF P χ (w.setCell ⟨b, o, none⟩ (.string z)) :=
  hi.store h rfl fun _ => ⟨z, rfl, h1⟩

theorem InvF.far {P : Program} {χ : Chi} {w : World} (hi : InvF P χ w) {b o : Nat} {v : Value} (h : ¬ χ.A b) : InvF P χ (w.setCell ⟨b, o, none⟩ v) :=
  hi.same fun k hk => heap_setCell_far fun e => h (e ▸ hk)

section
variable {T3 T9 : Nat} {w : World} {be oe base : Nat} {mk : Bool} {at_ : Int} {vn vs : Value} {ns : List Int} {ss : List ByteArray}

theorem EyeAt.other (h : EyeAt T3 T9 w be oe base mk at_ vn vs ns ss) {b o : Nat} {v : Value} (hb : b < base) (hne : b ≠ be) : EyeAt T3 T9 (w.setCell ⟨b, o, none⟩ v) be oe base mk at_ vn vs ns ss := by
  have hs : (w.setCell ⟨b, o, none⟩ v).heap[be]? = w.heap[be]? := heap_setCell_far (Ne.symm hne)
  have hc : ∀ q, (w.setCell ⟨b, o, none⟩ v).cell? ⟨be, q, none⟩ = w.cell? ⟨be, q, none⟩ := fun q => World.cell?_of_block hs
  have hf : ∀ q, (w.setCell ⟨b, o, none⟩ v).frozen? ⟨be, q, none⟩ = w.frozen? ⟨be, q, none⟩ := fun q => World.frozen?_of_block hs
  refine ⟨?_, ?_, ?_, ?_, ?_, ?_, ?_, ?_, ?_, ?_, h.ne, h.lt, by rw [size_setCell]; exact h.base⟩
  · rw [hc]; exact h.c0
  · rw [hc]; exact h.c1
  · rw [hc]; exact h.c2
  · rw [hc]; exact h.c3
  · rw [hf]; exact h.f0
  · rw [hf]; exact h.f1
  · rw [hf]; exact h.f2
  · rw [hf]; exact h.f3
  · exact ownsRow_setCell h.on fun e => by have := (h.on.lt _ e).1; omega
  · exact ownsRow_setCell h.os fun e => by have := (h.os.lt _ e).1; omega

theorem EyeAt.setAt (h : EyeAt T3 T9 w be oe base mk at_ vn vs ns ss) (z : Int) : EyeAt T3 T9 (w.setCell ⟨be, oe + 3, none⟩ (.int .i64 z)) be oe base mk z vn vs ns ss := by
  have c3 := h.c3
  refine ⟨?_, ?_, ?_, cell_setCell_same c3 rfl, ?_, ?_, ?_, ?_, ?_, ?_, h.ne, h.lt, by rw [size_setCell]; exact h.base⟩
  · rw [cell_setCell_off c3 (by omega)]; exact h.c0
  · rw [cell_setCell_off c3 (by omega)]; exact h.c1
  · rw [cell_setCell_off c3 (by omega)]; exact h.c2
  · rw [frozen_setCell c3]; exact h.f0
  · rw [frozen_setCell c3]; exact h.f1
  · rw [frozen_setCell c3]; exact h.f2
  · rw [frozen_setCell c3]; exact h.f3
  · exact ownsRow_setCell h.on h.bn
  · exact ownsRow_setCell h.os h.bs

theorem KeepsM.store {A : Nat → Prop} (w : World) {b o : Nat} {v : Value} (hb : b = be ∨ A b) : KeepsM A w (w.setCell ⟨b, o, none⟩ v) be base :=
  ⟨rfl, rfl, rfl, by rw [size_setCell]; exact Nat.le_refl _, fun k _ hk hn => heap_setCell_far fun e => by
    subst e
    rcases hb with hb | hb
    · exact hk hb
    · exact hn hb⟩

theorem EyeAt.drew (h : EyeAt T3 T9 w be oe base mk at_ vn vs ns ss) : EyeAt T3 T9 w.drew be oe base mk at_ vn vs ns ss :=
  ⟨h.c0, h.c1, h.c2, h.c3, h.f0, h.f1, h.f2, h.f3, (Hp.refl w).drew.owns h.on, (Hp.refl w).drew.owns h.os, h.ne, h.lt, h.base⟩

theorem InvF.drew {P : Program} {χ : Chi} {w : World} (hi : InvF P χ w) : InvF P χ w.drew := hi.same fun _ _ => rfl

theorem KeepsM.drew (A : Nat → Prop) (w : World) (be base : Nat) : KeepsM A w w.drew be base := ⟨rfl, rfl, rfl, Nat.le_refl _, fun _ _ _ _ => rfl⟩

theorem MarkEnd.num {P : Program} {χ : Chi} {w0 w1 : World} {d : D} (hd : d.num = true ∧ d.bnd = d.mn ∧ d.mn = 1) (hk : KeepsM χ.A w0 w be base) (hi : InvF P χ w) (hfar : Far χ.A be base) (h : EyeAt T3 T9 w be oe base true at_ vn vs ns ss) (hg : w.grownBy w1 vn.ownBlock) {gg cap : Nat} {z' : Int}
    (ho : w1.ownsRow base T3 1 (.slice (some ⟨gg, 0, none⟩) (ns.length + 1) cap) (ns.length + 1) (ns.map (.int .i64) ++ [.int .i64 z'])) (ha : vn.ownBlock = some gg ∨ w.heap.size ≤ gg) :
    MarkEnd P T3 T9 χ w0 be oe base d ns ss (w1.setCell ⟨be, oe, none⟩ (.slice (some ⟨gg, 0, none⟩) (ns.length + 1) cap)) := by
  obtain ⟨h1, h2⟩ := h.addN hg ho ha
  have hsame := h2.same hfar
  obtain ⟨d1, d2, d3⟩ := hd
  refine ⟨hk.trans (h2.m _), hi.same hsame, at_, _, vs, ns ++ [z'], ss, h1, ?_, ?_, ?_, ?_, by simp; omega⟩
  · simp
  · intro _; simp
  · simp; omega
  · omega

theorem MarkEnd.str {P : Program} {χ : Chi} {w0 w1 : World} (hk : KeepsM χ.A w0 w be base) (hi : InvF P χ w) (hfar : Far χ.A be base) (h : EyeAt T3 T9 w be oe base true at_ vn vs ns ss) (hg : w.grownBy w1 vs.ownBlock) {gg cap : Nat} {z : ByteArray}
    (ho : w1.ownsRow base T9 1 (.slice (some ⟨gg, 0, none⟩) (ss.length + 1) cap) (ss.length + 1) (ss.map .string ++ [.string z])) (ha : vs.ownBlock = some gg ∨ w.heap.size ≤ gg) :
    MarkEnd P T3 T9 χ w0 be oe base .str ns ss (w1.setCell ⟨be, oe + 1, none⟩ (.slice (some ⟨gg, 0, none⟩) (ss.length + 1) cap)) := by
  obtain ⟨h1, h2⟩ := h.addS hg ho ha
  have hsame := h2.same hfar
  refine ⟨hk.trans (h2.m _), hi.same hsame, at_, vn, _, ns, ss ++ [z], h1, ?_, ?_, ?_, ?_, by simp [D.mn]⟩
  · exact Nat.le_refl _
  · intro h; cases h
  · simp [D.bnd]; omega
  · simp [D.co]

end

end Go.Sx

namespace Go.Sx
open Go

def RdV (Z : Nat → Prop) (w : World) : D → (Nat → Option Value) → Nat → Prop
  | .int k, f, o => ∃ z, f o = some (.int k z) ∧ k.min ≤ z ∧ z ≤ k.max
  | .bool, f, o => ∃ z, f o = some (.bool z)
  | .str, f, o => ∃ z, f o = some (.string z) ∧ z.size ≤ maxLen
  | .nil, _, _ => True
  | .seq x y, f, o => RdV Z w x f o ∧ RdV Z w y f (o + x.size)
  | .row _ e, f, o => ∃ ao l c, f o = some (.slice ao l c) ∧ l ≤ c ∧ c ≤ maxLen ∧ RowRd Z w e ao l
  | .stop _, _, _ => True
  | .strs _, f, o => ∃ ao l c, f o = some (.slice ao l c) ∧ l ≤ c ∧ c ≤ maxLen ∧ l ≤ 100 ∧ RowRd Z w .str ao l

def SmV (m : Nat) (w : World) : D → (Nat → Option Value) → Nat → Prop
  | .str, f, o => ∀ z, f o = some (.string z) → z.size ≤ m
  | .seq x y, f, o => SmV m w x f o ∧ SmV m w y f (o + x.size)
  | .row _ e, f, o => ∀ ao l c, f o = some (.slice ao l c) → l ≤ m ∧ ∀ b' o', ao = some ⟨b', o', none⟩ → ∀ i, i < l → SmV m w e (fun j => w.cell? ⟨b', j, none⟩) (o' + i * e.size)
  | .stop _, _, _ => False
  | .strs _, _, _ => False
  | _, _, _ => True

theorem RdV.rd {Z : Nat → Prop} {w : World} {b : Nat} (hb : Z b) : ∀ (d : D) {f : Nat → Option Value} {o q : Nat}, RdV Z w d f o → (∀ i, i < d.size → w.cell? ⟨b, q + i, none⟩ = f (o + i) ∧ w.frozen? ⟨b, q + i, none⟩ = false) → Rd Z w d b q := by
  intro d
  induction d with
  | int k =>
    intro f o q h hc
    obtain ⟨z, h1, h2⟩ := h
    obtain ⟨c1, c2⟩ := hc 0 (by simp [D.size])
    simp only [Nat.add_zero] at c1 c2
    exact ⟨hb, c2, z, c1.trans h1, h2⟩
  | bool =>
    intro f o q h hc
    obtain ⟨z, h1⟩ := h
    obtain ⟨c1, c2⟩ := hc 0 (by simp [D.size])
    simp only [Nat.add_zero] at c1 c2
    exact ⟨hb, c2, z, c1.trans h1⟩
  | str =>
    intro f o q h hc
    obtain ⟨z, h1, h2⟩ := h
    obtain ⟨c1, c2⟩ := hc 0 (by simp [D.size])
    simp only [Nat.add_zero] at c1 c2
    exact ⟨hb, c2, z, c1.trans h1, h2⟩
  | nil => intro f o q _ _; trivial
  | stop l => intro f o q _ _; trivial
  | seq x y ihx ihy =>
    intro f o q h hc
    refine ⟨ihx h.1 fun i hi => hc i (by simp only [D.size]; omega), ihy h.2 fun i hi => ?_⟩
    have := hc (x.size + i) (by simp only [D.size]; omega)
    rw [← Nat.add_assoc, ← Nat.add_assoc] at this
    exact this
  | strs t =>
    intro f o q h hc
    obtain ⟨ao, l, c, h1, h2, h3, h4⟩ := h
    obtain ⟨c1, c2⟩ := hc 0 (by simp [D.size])
    simp only [Nat.add_zero] at c1 c2
    exact ⟨hb, c2, ao, l, c, c1.trans h1, h2, h3, h4⟩
  | row t e _ =>
    intro f o q h hc
    obtain ⟨ao, l, c, h1, h2, h3, h4⟩ := h
    obtain ⟨c1, c2⟩ := hc 0 (by simp [D.size])
    simp only [Nat.add_zero] at c1 c2
    exact ⟨hb, c2, ao, l, c, c1.trans h1, h2, h3, h4⟩

def D.leaves : D → Nat → List (Nat × D)
  | .nil, _ => []
  | .stop _, _ => []
  | .seq x y, o => x.leaves o ++ y.leaves (o + x.size)
  | d, o => [(o, d)]

theorem RdV.of_leaves {Z : Nat → Prop} {w : World} {f : Nat → Option Value} : ∀ (d : D) {o : Nat}, (∀ p ∈ d.leaves o, RdV Z w p.2 f p.1) → RdV Z w d f o := by
  intro d
  induction d with
  | nil => intro o _; trivial
  | stop l => intro o _; trivial
  | seq x y ihx ihy => intro o h; exact ⟨ihx fun p hp => h p (by simp [D.leaves, hp]), ihy fun p hp => h p (by simp [D.leaves, hp])⟩
  | int k => intro o h; exact h (o, .int k) (by simp [D.leaves])
  | bool => intro o h; exact h (o, .bool) (by simp [D.leaves])
  | str => intro o h; exact h (o, .str) (by simp [D.leaves])
  | row t e _ => intro o h; exact h (o, .row t e) (by simp [D.leaves])
  | strs t => intro o h; exact h (o, .strs t) (by simp [D.leaves])

def typeLeaves (P : Program) : Nat → TypeId → Nat → Option (List (Nat × TypeId))
  | 0, _, _ => none
  | n + 1, t, o =>
    match P.underlying t with
    | some (.struct fs) => (fs.toList.mapM fun f => typeLeaves P n f.type (o + f.offset)).map List.flatten
    | some (.array m e) => ((List.range m).mapM fun i => typeLeaves P n e (o + i * P.cellsOf e)).map List.flatten
    | _ => some [(o, t)]

theorem mapM_mem {α β : Type} {f : α → Option β} {l : List α} {r : List β} (h : l.mapM f = some r) {x : α} (hx : x ∈ l) : ∃ y ∈ r, f x = some y := by
  obtain ⟨i, hi, rfl⟩ := List.getElem_of_mem hx
  have h1 := mapM_some_get h i l[i] (List.getElem?_eq_getElem hi)
  have hl := mapM_some_length h
  have hir : i < r.length := by omega
  exact ⟨r[i], List.getElem_mem hir, by rw [h1, List.getElem?_eq_getElem hir]⟩

theorem sub_sub {cs : List Value} {a s k c : Nat} : ((((cs.drop a).take s).drop k).take c) = (cs.drop (a + k)).take (min c (s - k)) := by
  rw [List.drop_take, List.take_take, List.drop_drop]

section
variable {H : Type} {enc : TypeId × Value → H} {P : Program} {w : World} {base : Nat} {spare : Nat → Bool} {held : Bool}

theorem trod_leaf : ∀ (n fuel : Nat) (t : TypeId) (cs : List Value) (o : Nat) (dd : DataW H) (ps : List MemPlace) (L : List (Nat × TypeId)), DataW.trod enc P w base spare held fuel t cs = some (dd, ps) → typeLeaves P n t o = some L →
    ∀ p ∈ L, ∃ k c fuel' dd' ps', p.1 = o + k ∧ DataW.trod enc P w base spare held fuel' p.2 ((cs.drop k).take c) = some (dd', ps') ∧ ∀ x ∈ ps', x ∈ ps := by
  intro n
  induction n with
  | zero => intro fuel t cs o dd ps L _ h; cases h
  | succ n ih =>
    intro fuel t cs o dd ps L ht hL p hp
    cases fuel with
    | zero => cases ht
    | succ fuel =>
      have ht0 := ht
      unfold typeLeaves at hL
      split at hL
      · rename_i fs hu
        unfold DataW.trod at ht
        rw [hu] at ht
        simp only at ht
        split at ht
        · rename_i hsz
          obtain ⟨xs, hxs, hx2⟩ := Option.map_eq_some_iff.1 ht
          obtain ⟨Ls, hLs, rfl⟩ := Option.map_eq_some_iff.1 hL
          cases hx2
          obtain ⟨l, hl, hpl⟩ := List.mem_flatten.1 hp
          obtain ⟨f, hf, hfl⟩ := mapM_mem_of hLs l hl
          obtain ⟨x, hx, hfx⟩ := mapM_mem hxs hf
          obtain ⟨k, c, fuel', dd', ps', h1, h2, h3⟩ := ih fuel f.type _ (o + f.offset) x.1 x.2 l hfx hfl p hpl
          rw [sub_sub] at h2
          exact ⟨f.offset + k, _, fuel', dd', ps', by rw [h1, Nat.add_assoc], h2, fun y hy => List.mem_flatMap.2 ⟨x, hx, h3 y hy⟩⟩
        · cases ht
      · rename_i m e hu
        unfold DataW.trod at ht
        rw [hu] at ht
        simp only at ht
        split at ht
        · rename_i hsz
          obtain ⟨xs, hxs, hx2⟩ := Option.map_eq_some_iff.1 ht
          obtain ⟨Ls, hLs, rfl⟩ := Option.map_eq_some_iff.1 hL
          cases hx2
          obtain ⟨l, hl, hpl⟩ := List.mem_flatten.1 hp
          obtain ⟨i, hi, hfl⟩ := mapM_mem_of hLs l hl
          obtain ⟨x, hx, hfx⟩ := mapM_mem hxs hi
          obtain ⟨k, c, fuel', dd', ps', h1, h2, h3⟩ := ih fuel e _ (o + i * P.cellsOf e) x.1 x.2 l hfx hfl p hpl
          rw [sub_sub] at h2
          exact ⟨i * P.cellsOf e + k, _, fuel', dd', ps', by rw [h1, Nat.add_assoc], h2, fun y hy => List.mem_flatMap.2 ⟨x, hx, h3 y hy⟩⟩
        · cases ht
      · cases hL
        simp only [List.mem_singleton] at hp
        subst hp
        exact ⟨0, cs.length, fuel + 1, dd, ps, rfl, by simpa using ht0, fun _ h => h⟩

theorem one_of_sub {cs : List Value} {k c : Nat} {v : Value} (h : (cs.drop k).take c = [v]) : cs[k]? = some v := by
  have : ((cs.drop k).take c)[0]? = some v := by rw [h]; rfl
  rw [List.getElem?_take] at this
  split at this
  · simpa using this
  · cases this

end

def leafB (P : Program) (rec : D → TypeId → Bool) : D → TypeId → Bool
  | .int k, u => match P.underlying u with | some (.int k') => decide (k' = k) | _ => false
  | .bool, u => match P.underlying u with | some .bool => true | _ => false
  | .str, u => match P.underlying u with | some .string => true | _ => false
  | .row t e, u => match P.underlying u with | some (.slice t') => Nat.beq t' t && Nat.beq (P.cellsOf t) e.size && Nat.ble 1 e.size && rec e t | _ => false
  | _, _ => false

def pairB (g : D → TypeId → Bool) : List (Nat × D) → List (Nat × TypeId) → Bool
  | [], [] => true
  | (o, d) :: l, (o', u) :: l' => Nat.beq o o' && g d u && pairB g l l'
  | _, _ => false

def D.isStop : D → Bool
  | .stop _ => true
  | _ => false

def kindB (P : Program) : Nat → D → TypeId → Bool
  | 0, _, _ => false
  | n + 1, d, t => d.isStop || match typeLeaves P 40 t 0 with | some L => pairB (leafB P (kindB P n)) (d.leaves 0) L | none => false

theorem pairB_mem {g : D → TypeId → Bool} : ∀ {l : List (Nat × D)} {l' : List (Nat × TypeId)}, pairB g l l' = true → ∀ p ∈ l, ∃ u, (p.1, u) ∈ l' ∧ g p.2 u = true := by
  intro l
  induction l with
  | nil => intro l' _ p hp; cases hp
  | cons q l ih =>
    intro l' h p hp
    obtain ⟨o, d⟩ := q
    cases l' with
    | nil => cases h
    | cons q' l' =>
      obtain ⟨o', u⟩ := q'
      simp only [pairB, Bool.and_eq_true] at h
      obtain ⟨⟨h1, h2⟩, h3⟩ := h
      have h1 : o = o' := by simpa using h1
      subst h1
      rcases List.mem_cons.1 hp with rfl | hp
      · exact ⟨u, by simp, h2⟩
      · obtain ⟨u', m1, m2⟩ := ih h3 p hp
        exact ⟨u', by simp [m1], m2⟩

theorem mem_row {a : Addr} {n i : Nat} (h : i < n) : MemPlace.cell a.block (a.off + i) ∈ MemPlace.row a n :=
  List.mem_map.2 ⟨i, by simpa using h, rfl⟩

section
variable {H : Type} {enc : TypeId × Value → H} {P : Program} {w : World} {base : Nat} {spare : Nat → Bool} {held : Bool} {Z : Nat → Prop}

theorem trod_rdv : ∀ (n fuel : Nat) (d : D) (t : TypeId) (cs : List Value) (dd : DataW H) (ps : List MemPlace), kindB P n d t = true → DataW.trod enc P w base spare held fuel t cs = some (dd, ps) →
    (∀ b off, MemPlace.cell b off ∈ ps → w.frozen? ⟨b, off, none⟩ = false ∧ Z b) → RdV Z w d (fun i => cs[i]?) 0 := by
  intro n
  induction n with
  | zero => intro fuel d t cs dd ps h; cases h
  | succ n ih =>
    intro fuel d t cs dd ps hk ht hz
    simp only [kindB, Bool.or_eq_true] at hk
    rcases hk with hk | hk
    · cases d with
      | stop l => trivial
      | _ => cases hk
    split at hk
    · rename_i L hL
      refine RdV.of_leaves d fun p hp => ?_
      obtain ⟨u, hu, hg⟩ := pairB_mem hk p hp
      obtain ⟨k, c, fuel', dd', ps', hpk, htr, hsub⟩ := trod_leaf 40 fuel t cs 0 dd ps L ht hL _ hu
      obtain ⟨o, dl⟩ := p
      simp only [Nat.zero_add] at hpk htr hg ⊢
      subst hpk
      cases dl with
      | int ik =>
        simp only [leafB] at hg
        split at hg
        · rename_i k' hu'
          simp only [decide_eq_true_eq] at hg
          subst hg
          obtain ⟨z, h1, _, h3⟩ := DataW.trod_int hu' htr
          have := one_of_sub h1
          refine ⟨z, this, ?_⟩
          simpa [Lit.wf, IntKind.has] using h3
        · cases hg
      | bool =>
        simp only [leafB] at hg
        split at hg
        · rename_i hu'
          obtain ⟨z, h1, _⟩ := DataW.trod_bool hu' htr
          exact ⟨z, one_of_sub h1⟩
        · cases hg
      | str =>
        simp only [leafB] at hg
        split at hg
        · rename_i hu'
          obtain ⟨z, h1, _, h3⟩ := DataW.trod_string hu' htr
          exact ⟨z, one_of_sub h1, h3⟩
        · cases hg
      | nil => cases hg
      | stop l => cases hg
      | strs t' => cases hg
      | seq x y => cases hg
      | row t' e =>
        simp only [leafB] at hg
        split at hg
        · rename_i t2 hu'
          simp only [Bool.and_eq_true] at hg
          obtain ⟨⟨⟨g1, g2⟩, g2'⟩, g3⟩ := hg
          have hsz : 1 ≤ e.size := by simpa using g2'
          have g1 : t2 = t' := by simpa using g1
          have g2 : P.cellsOf t' = e.size := by simpa using g2
          subst g1
          rcases DataW.trod_slice hu' htr with ⟨h0, _⟩ | ⟨a, len, cap, elems, rest, n', _, h1, hx, hb, hl, hm, hlen, hel, _⟩
          · exact ⟨none, 0, 0, one_of_sub h0, Nat.le_refl _, Nat.zero_le _, .inl rfl⟩
          · refine ⟨some a, len, cap, one_of_sub h1, hl, hm, ?_⟩
            rcases Nat.eq_zero_or_pos len with h0 | h0
            · exact .inl h0
            · have hcell : ∀ i, i < len → ∃ csi x, w.cells? base (a.add (i * P.cellsOf t2)) (P.cellsOf t2) = some csi ∧ DataW.trod enc P w base spare held n' t2 csi = some x ∧ x ∈ elems := by
                intro i hi
                have := hel i hi
                rw [List.getElem?_eq_getElem (by omega)] at this
                obtain ⟨csi, h1, h2⟩ := Option.bind_eq_some_iff.1 this
                exact ⟨csi, _, h1, h2, List.getElem_mem _⟩
              obtain ⟨ab, ao, asp⟩ := a
              cases hx
              by_cases hsp : asp = none
              · subst hsp
                refine .inr ⟨ab, ao, rfl, fun i hi => ?_⟩
                obtain ⟨csi, x, hc, htx, hxe⟩ := hcell i hi
                obtain ⟨_, hcl, hcc⟩ := World.cells?_some hc
                have hplaces : ∀ b off, MemPlace.cell b off ∈ x.2 → w.frozen? ⟨b, off, none⟩ = false ∧ Z b := fun b off hm =>
                  hz b off (hsub _ (List.mem_append_right _ (List.mem_flatMap.2 ⟨x, List.mem_append_left _ hxe, hm⟩)))
                have hr := ih n' e t2 csi x.1 x.2 g3 htx hplaces
                have hrow : ∀ j, j < e.size → w.frozen? ⟨ab, ao + (i * e.size + j), none⟩ = false ∧ Z ab := fun j hj => by
                  refine hz ab _ (hsub _ (List.mem_append_left _ ?_))
                  refine mem_row (a := ⟨ab, ao, none⟩) ?_
                  rw [g2]
                  have : (i + 1) * e.size ≤ (elems.length + rest.length) * e.size := Nat.mul_le_mul_right _ (by omega)
                  rw [Nat.succ_mul] at this; omega
                refine hr.rd (hrow 0 (by omega)).2 e fun j hj => ?_
                have h1 := hcc j (by omega)
                rw [Nat.zero_add, ← h1, Nat.add_assoc]
                refine ⟨?_, (hrow j hj).1⟩
                rw [g2, Addr.add_none, Addr.add_none, Nat.add_assoc]
              · exfalso
                obtain ⟨csi, x, hc, _, _⟩ := hcell 0 h0
                obtain ⟨_, hcl, hcc⟩ := World.cells?_some hc
                have h1 := hcc 0 (by omega)
                rw [List.getElem?_eq_getElem (by omega)] at h1
                simp only [Addr.add, World.cell?] at h1
                obtain ⟨q, rfl⟩ := Option.ne_none_iff_exists'.1 hsp
                split at h1 <;> simp at h1
        · cases hg
    · cases hk

end

end Go.Sx

namespace Go.Sx
open Go Go.ChangeShapes Go.WideShapes

def sliceCellsB (P : Program) : Bool := (List.range P.types.size).all fun t => match P.underlying t with | some (.slice e) => Nat.ble 1 (P.cellsOf e) | _ => true

theorem sliceCells_ok {P : Program} (h : sliceCellsB P = true) {t e : TypeId} (ht : t < P.types.size) (hu : P.underlying t = some (.slice e)) : 0 < P.cellsOf e := by
  have := List.all_eq_true.1 h t (List.mem_range.2 ht)
  rw [hu] at this
  exact Nat.le_of_ble_eq_true this

section
variable {H : Type} {enc : TypeId × Value → H} {P : Program} {W W' : World}

theorem sameAt_old (hold : ∀ b, b < W.heap.size → W'.heap[b]? = W.heap[b]?) {p : MemPlace} (h : p.block < W.heap.size) : W.sameAt W' p := by
  cases p with
  | cell b o => exact World.cell?_of_block (a := ⟨b, o, none⟩) (hold b h)
  | map b => exact hold b h

theorem args_stay {T : TypeId → Prop} (K : Kids P T) (hsz : ∀ {t e : TypeId}, T t → P.underlying t = some (.slice e) → 0 < P.cellsOf e) (hold : ∀ b, b < W.heap.size → W'.heap[b]? = W.heap[b]?) :
    ∀ {ts : List TypeId} {vs : List Value} {ds : List (DataW H)} {ps : List MemPlace}, DataW.TrodAll enc P W 0 (fun _ => true) true ts vs ds ps → (∀ t ∈ ts, T t) → ∀ sp : Nat → Bool, (∀ p ∈ ps, sp p.block = true) → DataW.TrodAll enc P W' 0 sp true ts vs ds ps
  | [], _, _, _, h, _, _, _ => by
    obtain ⟨rfl, rfl, rfl⟩ := trodAll_nil h
    rfl
  | _ :: _, _, _, _, h, ht, sp, hs => by
    obtain ⟨v, vs1, d, ds1, a, b, rfl, rfl, rfl, ⟨n, h1⟩, h2⟩ := trodAll_cons h
    refine ⟨a, b, ⟨n, ?_⟩, args_stay K hsz hold h2 (fun t h => ht t (List.mem_cons_of_mem _ h)) sp fun p hp => hs p (List.mem_append_right _ hp), rfl⟩
    refine DataW.trod_stays K hsz (fun h : true = false => nomatch h) (ht _ (List.mem_cons_self ..)) h1 (fun p hp => sameAt_old hold (DataW.trod_lt n _ _ _ h1 p hp)) fun p hp => hs p (List.mem_append_left _ hp)

end

end Go.Sx
