/- Part L of a proof: helper lemmas; no conditions. -/
import Derived.Test.YtnnaehcmchndmaaGreatDoorK
import Derived.Test.YtnnaehcmchndmaaGreatDoorJ
import Derived.WalkKit
import Derived.OwnWalk

set_option linter.unusedSimpArgs false
set_option linter.unusedVariables false

namespace Go.Sx
open Go

def D.okB (P : Program) : D → Bool
  | .seq a b => a.okB P && b.okB P
  | .row t e => ctsB (tau P (.base t)) e.cts && Nat.ble 1 e.size && e.okB P
  | .strs t => ctsB (tau P (.base t)) [.str]
  | _ => true

theorem D.okB_ok {P : Program} : ∀ {d : D}, d.okB P = true → d.ok P := by
  intro d
  induction d with
  | seq a b iha ihb => intro h; simp only [D.okB, Bool.and_eq_true] at h; exact ⟨iha h.1, ihb h.2⟩
  | row t e ih =>
    intro h
    simp only [D.okB, Bool.and_eq_true, Nat.ble_eq] at h
    exact ⟨ctsB_eq h.1.1, h.1.2, ih h.2⟩
  | strs t => intro h; exact ctsB_eq h
  | _ => intro _; trivial

def copyB (P : Program) (t es : Nat) : Bool :=
  match P.info? t with
  | some i => (match i.zero with | some z => Nat.beq i.size es && Nat.beq z.cells.size es && Nat.ble 1 es && Nat.ble i.bytes 1000000 | none => false)
  | none => false

theorem CopyRaw.of_codeB {P : Program} {g t es n i0 i1 r s1 s2 T y0 y1 y2 y3 : Nat} {p0 p1 p2 p3 : String} {f0 f1 f2 f3 : Array Edge} {fn : Func}
    (hf : P.funcs[g]? = some fn) (hn : fn.ntmps = n) (hr : fn.results = #[.tmp r]) (hs : (Nat.blt r n && Nat.blt s1 n && Nat.blt s2 n && Nat.ble 1 n && Nat.ble 1 r && Nat.ble 1 s1) = true)
    (hT : P.underlying T = some (.slice t)) (hc : copyB P t es = true)
    (hb : fn.body = some (.seq (.region i0 #[⟨some r, .assign (.const (.slice none 0 0)), y0, p0, f0, none⟩] false) (.seq (.region i1 #[⟨some s1, .move (.tmp 0), y1, p1, f1, none⟩,
      ⟨some s2, .call ⟨.builtin .append, #[.const (.slice none 0 0), .tmp s1], #[T, T]⟩, y2, p2, f2, none⟩, ⟨some r, .assign (.tmp s2), y3, p3, f3, none⟩] false) .ret))) : CopyRaw P g t es := by
  unfold copyB at hc
  split at hc
  · rename_i i hi
    split at hc
    · rename_i z hz
      simp only [Bool.and_eq_true, Nat.ble_eq] at hc
      obtain ⟨⟨⟨h1, h2⟩, h3⟩, h4⟩ := hc
      exact CopyRaw.of_code hf hn hr hs hT hi hz (by simpa using h1) (by simpa using h2) h3 h4 (by simp [zeroAt, hi, hz]) hb
    · cases hc
  · cases hc

def rowZB (P : Program) (t : Nat) (e : D) : Bool :=
  ctsB (tau P (.base t)) e.cts && Nat.ble 1 e.size && (match zeroAt P t with | some z => Nat.beq z.cells.size e.size && constFitL z.cells.toList e.cts | none => false)

theorem OwnOK.rowB {P : Program} {m g t : Nat} {e : D} (hcr : CopyRaw P g t e.size) (hm : m ≤ 2000) (hf : e.flat = true) (h : rowZB P t e = true) : OwnOK P m g false (.row t e) := by
  unfold rowZB at h
  simp only [Bool.and_eq_true, Nat.ble_eq] at h
  obtain ⟨⟨h1, h2⟩, h3⟩ := h
  split at h3
  · rename_i z hz
    simp only [Bool.and_eq_true] at h3
    exact OwnOK.row hcr hm hf (ctsB_eq h1) h2 hz (by simpa using h3.1) h3.2
  · cases h3

theorem u8_byte (z : Int) : ∃ c : UInt8, IntKind.u8.wrap z = (c.toNat : Int) := by
  obtain ⟨h1, h2⟩ := wrap_range .u8 z
  have e1 : IntKind.u8.min = 0 := by decide
  have e2 : IntKind.u8.max = 255 := by decide
  refine ⟨UInt8.ofNat (IntKind.u8.wrap z).toNat, ?_⟩
  rw [UInt8.toNat_ofNat']
  omega

theorem conv1 (P : Program) (T S E : Nat) (hT : P.underlying T = some (.slice E)) (hS : P.underlying S = some .string) (hE : P.underlying E = some (.int .u8)) (c : UInt8) (w : World) (b : Nat) (h : w.heap[b]? = some (.cells #[.int .u8 (c.toNat : Int)] E (0, 0))) :
    (convert T S (.slice (some ⟨b, 0, none⟩) 1 1)).run P w = .ok (.string ⟨#[c]⟩) w :=
  run_convert_bytes_back (P := P) w T S E ⟨b, 0, none⟩ 1 [c] hT hE hS (fun j hj => by
    have hj0 : j = 0 := by simp at hj; omega
    subst hj0
    rw [show (⟨b, 0, none⟩ : Addr).add 0 = ⟨b, 0, none⟩ from rfl, cell?_blk h]
    rfl)

theorem EyeAt.grew {T3 T9 : Nat} {w w' : World} {be oe base : Nat} {mk : Bool} {at_ : Int} {vn vs : Value} {ns : List Int} {ss : List ByteArray} (h : EyeAt T3 T9 w be oe base mk at_ vn vs ns ss) (hg : w.grownBy w' none) : EyeAt T3 T9 w' be oe base mk at_ vn vs ns ss := by
  have hb : w'.heap[be]? = w.heap[be]? := hg.block be (by have := h.lt; have := h.base; omega) (by simp)
  have hc : ∀ o, w'.cell? ⟨be, o, none⟩ = w.cell? ⟨be, o, none⟩ := fun o => World.cell?_of_block (a := ⟨be, o, none⟩) hb
  have hf : ∀ o, w'.frozen? ⟨be, o, none⟩ = w.frozen? ⟨be, o, none⟩ := fun o => World.frozen?_of_block (a := ⟨be, o, none⟩) hb
  exact ⟨by rw [hc]; exact h.c0, by rw [hc]; exact h.c1, by rw [hc]; exact h.c2, by rw [hc]; exact h.c3, by rw [hf]; exact h.f0, by rw [hf]; exact h.f1, by rw [hf]; exact h.f2, by rw [hf]; exact h.f3,
    ownsRow_old (base' := base) h.on fun b hb => hg.block b (h.on.lt b hb).2 (by simp), ownsRow_old (base' := base) h.os fun b hb => hg.block b (h.os.lt b hb).2 (by simp), h.ne, h.lt, Nat.le_trans h.base hg.size⟩

theorem mstr_step {P : Program} {χ : Chi} {T3 T9 : Nat} {w wr : World} {be oe base bx ox : Nat} {at_ : Int} {vn vs : Value} {ns : List Int} {ss : List ByteArray} {s s' : ByteArray} (hat : At χ .str bx ox) (hfar : Far χ.A be base)
    (hk : KeepsM χ.A w wr be base) (hi : InvF P χ wr) (he : EyeAt T3 T9 wr be oe base true at_ vn vs ns ss) (hx : wr.cell? ⟨bx, ox, none⟩ = some (.string s)) (hs : s'.size ≤ LB) (o : Obj) :
    KeepsM χ.A w ((wr.setCell ⟨bx, ox, none⟩ (.string s')).alloc o).drew be base ∧ InvF P χ ((wr.setCell ⟨bx, ox, none⟩ (.string s')).alloc o).drew ∧
      EyeAt T3 T9 ((wr.setCell ⟨bx, ox, none⟩ (.string s')).alloc o).drew be oe base true at_ vn vs ns ss ∧ ((wr.setCell ⟨bx, ox, none⟩ (.string s')).alloc o).drew.cell? ⟨bx, ox, none⟩ = some (.string s') := by
  obtain ⟨hxb, hxe⟩ := hfar bx hat.1
  have hk2 := hk.trans (KeepsM.store (A := χ.A) (be := be) (base := base) wr (b := bx) (o := ox) (v := .string s') (.inr hat.1))
  have hi2 := hi.setStr (z := s') hat hs
  have he2 := he.other (o := ox) (v := .string s') hxb hxe
  have hx2 := cell_setCell_same (v := .string s') hx rfl
  generalize wr.setCell ⟨bx, ox, none⟩ (.string s') = w1 at *
  have hg : w1.grownBy (w1.alloc o).drew none := grown_drew (grown_alloc w1 o)
  refine ⟨hk2.trans ⟨hg.os, hg.tape, hg.output, hg.size, fun b hb _ _ => hg.block b (by have := he2.base; omega) (by simp)⟩, hi2.same fun b hb => hg.block b (hi2.1.lt hb) (by simp), he2.grew hg, ?_⟩
  rw [World.cell?_of_block (a := ⟨bx, ox, none⟩) (hg.block bx (by have := he2.base; omega) (by simp))]
  exact hx2

theorem wpList_load_agg {P : Program} {ops : Array Oper} {rest : List Oper} {o : Oper} {a : Act} {w : World} {Q : Exit → Act → World → Prop} (hgd : o.guard = none) (T : Nat) (x : Operand) (ho : o.op = .load T x) (hagg : aggOf P T = some true) (sz : Nat)
    (hsz : sizeAt P T = some sz) (b : Nat) (hx : a.eval x = .pointer (some ⟨b, 0, none⟩)) (cs : Array Value) (E : TypeId) (hblk : w.heap[b]? = some (.cells cs E (0, 0))) (hcs : cs.size = sz) (h : wpList P ops Q rest (a.put o.dst (.agg cs)) w) : wpList P ops Q (o :: rest) a w :=
  wpList_plain hgd fun K hK => by
    have he : cs.extract 0 (0 + sz) = cs := by rw [Nat.zero_add, ← hcs]; simp
    refine wp_loadC (agg := true) ho hagg hsz (fun h => by cases h) hx hblk (by omega) ?_
    rw [he]
    exact hK _ _ h

theorem wpList_buildFs {P : Program} {ops : Array Oper} {rest : List Oper} {o : Oper} {a : Act} {w : World} {Q : Exit → Act → World → Prop} (hgd : o.guard = none) (T n : Nat) (parts : Array (Nat × Operand)) (ho : o.op = .buildSlice T n parts) (e : Nat)
    (hu : P.underlying T = some (.slice e)) (hsz : sizeAt P e = some 1) (hz : zeroAt P e = some .nilFunc) (vs : Array Value) (hn : n * 1 ≤ 1000) (hn1 : 1 ≤ n) (ps : List (Nat × Value)) (hps : (parts.map fun p => (p.1, a.eval p.2)).toList = ps)
    (hfill : Instr.fill (fun i => some (i * 1, 1)) ((Array.range (n * 1)).map fun i => (Value.nilFunc).cells[i % (Value.nilFunc).cells.size]!) ps = some vs)
    (h : wpList P ops Q rest (a.put o.dst (.slice (some ⟨w.heap.size, 0, none⟩) n n)) (w.alloc (.cells vs e))) : wpList P ops Q (o :: rest) a w :=
  wpList_plain hgd fun K hK => by
    refine Oper.wp_val (v := .slice (some ⟨w.heap.size, 0, none⟩) n n) (w' := w.alloc (.cells vs e)) ?_ (hK _ _ h)
    have hr : (Instr.buildSlice T n (parts.map fun p => (p.1, a.eval p.2))).run P w = .ok (.slice (some ⟨w.heap.size, 0, none⟩) n n) (w.alloc (.cells vs e)) := by
      unfold Instr.buildSlice
      rw [Sem.run_bind, run_und hu]
      simp only [Result.andThen_ok]
      rw [Sem.run_bind, run_sizeAt hsz]
      simp only [Result.andThen_ok]
      rw [hps]
      rw [if_neg (by omega), if_neg (by omega)]
      simp only [Sem.run_bind, run_zeroAt hz, Sem.run_pure, Result.andThen_ok, hfill]
      rfl
    simp only [execOp, ho, Sem.run_bind, hr, Result.andThen_ok]
    rfl

end Go.Sx

namespace Go.Sx
open Go

end Go.Sx
