/- Part HnB of a proof: helper lemmas; no conditions. -/
import Derived.Test.YtnnaehcmchndmaaGreatDoorHnA
import Derived.Test.YtnnaehcmchndmaaGreatDoorProg
import Derived.Shelf.Strings.Builder1
import Derived.Shelf.Strings.BuilderF
import Derived.Deep.RegionLaw
import Derived.Deep.Cut
import Derived.Deep.CutBlock
import Derived.Deep.DeepCutAuto
import Derived.WalkSmall

set_option linter.unusedSimpArgs false
set_option linter.unusedVariables false

namespace Go.Sx
open Go Go.Proofs Go.Shelf Go.RowKit

def lays167_ren : Go.Shelf.Ren := ⟨fun | 167 => 213 | 240 => 240 | 276 => 315 | n => n, fun | 70 => 211 | 5 => 5 | 75 => 216 | 0 => 0 | 72 => 213 | 37 => 29 | 4 => 4 | 164 => 436 | 80 => 219 | 9 => 9 | n => n, fun | n => n⟩
theorem lays167 : Go.Proofs.Lays.n167 Tryz.prog lays167_ren where
  mixed := by kernel_rfl
  f167 := Tryz.func213.trans (congrArg some (by kernel_rfl))
  f240 := Tryz.func240.trans (congrArg some (by kernel_rfl))
  f276 := Tryz.func315.trans (congrArg some (by kernel_rfl))
  t0 := Tryz.underlying0
  a0 := Tryz.isAgg0
  z0 := Tryz.sizeOf0
  v0 := Tryz.zeroValue0
  t4 := Tryz.underlying4
  a4 := Tryz.isAgg4
  z4 := Tryz.sizeOf4
  v4 := Tryz.zeroValue4
  t5 := Tryz.underlying5
  a5 := Tryz.isAgg5
  z5 := Tryz.sizeOf5
  v5 := Tryz.zeroValue5
  t9 := Tryz.underlying9
  a9 := Tryz.isAgg9
  z9 := Tryz.sizeOf9
  v9 := Tryz.zeroValue9
  t20 := Tryz.underlying20
  a20 := Tryz.isAgg20
  z20 := Tryz.sizeOf20
  v20 := Tryz.zeroValue20
  t37 := Tryz.underlying29
  a37 := Tryz.isAgg29
  z37 := Tryz.sizeOf29
  v37 := Tryz.zeroValue29
  t70 := Tryz.underlying211
  a70 := Tryz.isAgg211
  z70 := Tryz.sizeOf211
  v70 := Tryz.zeroValue211
  t72 := Tryz.underlying213
  a72 := Tryz.isAgg213
  z72 := Tryz.sizeOf213
  v72 := Tryz.zeroValue213
  t75 := Tryz.underlying216
  a75 := Tryz.isAgg216
  z75 := Tryz.sizeOf216
  v75 := Tryz.zeroValue216
  t164 := Tryz.underlying436
  a164 := Tryz.isAgg436
  z164 := Tryz.sizeOf436
  v164 := Tryz.zeroValue436

def lays169_ren : Go.Shelf.Ren := ⟨fun | 169 => 141 | n => n, fun | 70 => 211 | 9 => 9 | 0 => 0 | 72 => 213 | 37 => 29 | 127 => 354 | 3 => 3 | 5 => 5 | n => n, fun | n => n⟩
theorem lays169 : Go.Proofs.Lays.n169 Tryz.prog lays169_ren where
  mixed := by kernel_rfl
  f169 := Tryz.func141.trans (congrArg some (by kernel_rfl))
  t0 := Tryz.underlying0
  a0 := Tryz.isAgg0
  z0 := Tryz.sizeOf0
  v0 := Tryz.zeroValue0
  t3 := Tryz.underlying3
  a3 := Tryz.isAgg3
  z3 := Tryz.sizeOf3
  v3 := Tryz.zeroValue3
  t9 := Tryz.underlying9
  a9 := Tryz.isAgg9
  z9 := Tryz.sizeOf9
  v9 := Tryz.zeroValue9
  t37 := Tryz.underlying29
  a37 := Tryz.isAgg29
  z37 := Tryz.sizeOf29
  v37 := Tryz.zeroValue29
  t70 := Tryz.underlying211
  a70 := Tryz.isAgg211
  z70 := Tryz.sizeOf211
  v70 := Tryz.zeroValue211
  t72 := Tryz.underlying213
  a72 := Tryz.isAgg213
  z72 := Tryz.sizeOf213
  v72 := Tryz.zeroValue213
  t127 := Tryz.underlying354
  a127 := Tryz.isAgg354
  z127 := Tryz.sizeOf354
  v127 := Tryz.zeroValue354

theorem extra167 : Go.Proofs.Builder.Extra Tryz.prog lays167_ren := { sizeBuilder := by kernel_rfl, liesBuilder := by kernel_rfl, t5 := Tryz.underlying5, a5 := Tryz.isAgg5, z5 := Tryz.sizeOf5, v5 := Tryz.zeroValue5, infoByte := by kernel_rfl, cellsByte := by kernel_rfl, sizeByte := by kernel_rfl, neB5 := by decide }
theorem extra169 : Go.Proofs.Builder.Extra Tryz.prog lays169_ren := { sizeBuilder := by kernel_rfl, liesBuilder := by kernel_rfl, t5 := Tryz.underlying5, a5 := Tryz.isAgg5, z5 := Tryz.sizeOf5, v5 := Tryz.zeroValue5, infoByte := by kernel_rfl, cellsByte := by kernel_rfl, sizeByte := by kernel_rfl, neB5 := by decide }

def BldIs (b n : Nat) (w0 w : World) : Prop := ∃ l : List UInt8, l.length = n ∧ Lib.IsBuilder 213 5 w0.heap.size b (Lib.byteCells l) w ∧ w0.grownBy w none

theorem grown_of_below0 {w w' : World} (h : Below w.heap.size w w') : w.grownBy w' none := ⟨h.os, h.tape, h.output, h.size, fun k hk _ => h.block k hk⟩

theorem grown_below {w0 w w' : World} (h : w0.grownBy w none) (hb : Below w0.heap.size w w') : w0.grownBy w' none :=
  ⟨hb.os.trans h.os, hb.tape.trans h.tape, hb.output.trans h.output, Nat.le_trans h.size hb.size, fun k hk _ => (hb.block k hk).trans (h.block k hk (by simp))⟩

theorem bld_fresh (w : World) : BldIs w.heap.size 0 w (w.alloc (.cells #[.pointer none, .slice none 0 0] 213)) :=
  ⟨[], rfl, Lib.fresh_isBuilder _ _ _, grown_alloc w _⟩

theorem BldIs.drew {b n : Nat} {w0 w : World} (h : BldIs b n w0 w) : BldIs b n w0 w.drew := by
  obtain ⟨l, h1, h2, h3⟩ := h
  exact ⟨l, h1, h2, grown_trans h3 (grown_drew0 w)⟩

theorem bld_byte {b n : Nat} {w0 w : World} {c : Int} (h : BldIs b n w0 w) (hn : n ≤ 1099511627776) (h0 : 0 ≤ c) (h1 : c ≤ 255) :
    Calls Tryz.prog 213 #[.pointer (some ⟨b, 0, none⟩), .int .u8 c] w fun e w' => e = .returned .nilIface ∧ BldIs b (n + 1) w0 w' := by
  obtain ⟨l, hl, hb, hg⟩ := h
  have hcon := Any.Builder_WriteByte lays167 extra167 w0.heap.size b (Lib.byteCells l) c w hb (by rw [Lib.byteCells_length]; omega) hg.size
  refine Calls.mono (show Calls Tryz.prog 213 _ _ _ from hcon) ?_
  rintro e w' ⟨rfl, h2, h3⟩
  refine ⟨rfl, l ++ [UInt8.ofNat c.toNat], by simp [hl], .inr ?_, grown_below hg h3⟩
  have e1 : Lib.byteCells (l ++ [UInt8.ofNat c.toNat]) = Lib.byteCells l ++ [.int .u8 c] := by
    simp [Lib.byteCells]
    omega
  rw [e1]
  exact h2

theorem isBuilderF_kept {T e : TypeId} {B b : Nat} {bs : List Value} {w w' : World} (h : Lib.IsBuilderF T e B b bs w) (hg : w.grownBy w' none) : Lib.IsBuilderF T e B b bs w' := by
  rcases h with h | h
  · obtain ⟨hB, v, hb, hown, hne⟩ := h
    exact .inl ⟨hB, v, (hg.block b (lt_of_blk hb) (by simp)).trans hb, ⟨hown.1, hown.2.imp id (fun ⟨g, cap, cur, fz, h1, h2, h3, r⟩ => ⟨g, cap, cur, fz, h1, h2, (hg.block g (lt_of_blk h3) (by simp)).trans h3, r⟩)⟩, hne⟩
  · obtain ⟨hB, v, hb, hown, hne⟩ := h
    exact .inr ⟨hB, v, (hg.block b (lt_of_blk hb) (by simp)).trans hb, ⟨hown.1, hown.2.imp id (fun ⟨g, cap, cur, fz, h1, h2, h3, r⟩ => ⟨g, cap, cur, fz, h1, h2, (hg.block g (lt_of_blk h3) (by simp)).trans h3, r⟩)⟩, hne⟩

def BldF (b n : Nat) (w0 w : World) : Prop := ∃ l : List UInt8, l.length = n ∧ Lib.IsBuilderF 213 5 w0.heap.size b (Lib.byteCells l) w ∧ w0.grownBy w none

theorem BldIs.f {b n : Nat} {w0 w : World} (h : BldIs b n w0 w) : BldF b n w0 w := by
  obtain ⟨l, h1, h2, h3⟩ := h
  exact ⟨l, h1, Lib.IsBuilderF.of h2, h3⟩

theorem BldF.kept {b n : Nat} {w0 w w' : World} (h : BldF b n w0 w) (hg : w.grownBy w' none) : BldF b n w0 w' := by
  obtain ⟨l, h1, h2, h3⟩ := h
  exact ⟨l, h1, isBuilderF_kept h2 hg, grown_trans h3 hg⟩

theorem bld_string_f {b n : Nat} {w0 w : World} (h : BldF b n w0 w) : Calls Tryz.prog 141 #[.pointer (some ⟨b, 0, none⟩)] w fun e w' => (∃ s : ByteArray, s.size = n ∧ e = .returned (.string s)) ∧ BldF b n w0 w' := by
  obtain ⟨l, hl, hb, hg⟩ := h
  have hcon := Any.Builder_String_any_f lays169 extra169 w0.heap.size b l w hb hg.size
  refine Calls.mono (show Calls Tryz.prog 141 _ _ _ from hcon) ?_
  rintro e w' ⟨rfl, h2, h3⟩
  exact ⟨⟨_, by simpa [ByteArray.size] using hl, rfl⟩, l, hl, h2, grown_below hg h3⟩

end Go.Sx

namespace Go.Sx
open Go

theorem gstep {P : Program} {ops : Array Oper} {o : Oper} {a : Act} {w : World} {K : Act → World → Prop} {Q : Exit → Act → World → Prop} {E : Prop} (hg : o.guard = none) (f : FuncId) (xs : Array Operand) (ts : Array TypeId)
    (hop : o.op = .call { callee := .value (.func f), args := xs, argTypes := ts }) {fn : Func} {body : Code} (hfn : P.funcs[f]? = some fn) (hb : fn.body = some body) (hname : (fn.name == "runtime.NumGoroutine") = false)
    {R : Ending → World → Prop} (hc : Calls P f (xs.map a.eval) w R) (hR : ∀ e w', R e w' → (∃ v, e = .returned v ∧ K (a.put o.dst v) w') ∨ (∃ c, e = .panicked c ∧ Q (.panic c) a w')) :
    if Region.wanted o (yielded ops a.tmps) = true then Oper.wp P o a w K Q else E := by
  have hw : Region.wanted o (yielded ops a.tmps) = true := by simp [Region.wanted, hg]
  rw [if_pos hw]
  have hrun := run_callF (P := P) (a := a) (w := w) (o := o) (c := { callee := .value (.func f), args := xs, argTypes := ts }) (f := .func f) (fid := f) (vs := #[]) hop rfl rfl hfn hb hname
  unfold Oper.wp
  rw [hrun]
  simp only [Array.append_empty]
  refine hc.mono ?_
  intro e w' h
  rcases hR e w' h with ⟨v, rfl, h1⟩ | ⟨c, rfl, h1⟩
  · exact h1
  · exact h1

theorem gstep2 {P : Program} {ops : Array Oper} {o : Oper} {a : Act} {w : World} {K : Act → World → Prop} {Q : Exit → Act → World → Prop} {E : Prop} (hg : o.guard = none) (f : FuncId) (x y : Operand) (ts : Array TypeId)
    (hop : o.op = .call { callee := .value (.func f), args := #[x, y], argTypes := ts }) (hcal : callable P f = true) {vx vy : Value} (hx : a.eval x = vx) (hy : a.eval y = vy)
    {R : Ending → World → Prop} (hc : Calls P f #[vx, vy] w R) (hR : ∀ e w', R e w' → (∃ v, e = .returned v ∧ K (a.put o.dst v) w') ∨ (∃ c, e = .panicked c ∧ Q (.panic c) a w')) :
    if Region.wanted o (yielded ops a.tmps) = true then Oper.wp P o a w K Q else E := by
  obtain ⟨fn, hh, hb, hname⟩ := callable_ok hcal
  obtain ⟨body, hb⟩ := Option.isSome_iff_exists.1 hb
  refine gstep hg f #[x, y] ts hop hh hb hname ?_ hR
  rw [show (#[x, y] : Array Operand).map a.eval = #[vx, vy] by simp [hx, hy]]
  exact hc

theorem gstep1 {P : Program} {ops : Array Oper} {o : Oper} {a : Act} {w : World} {K : Act → World → Prop} {Q : Exit → Act → World → Prop} {E : Prop} (hg : o.guard = none) (f : FuncId) (x : Operand) (ts : Array TypeId)
    (hop : o.op = .call { callee := .value (.func f), args := #[x], argTypes := ts }) (hcal : callable P f = true) {vx : Value} (hx : a.eval x = vx)
    {R : Ending → World → Prop} (hc : Calls P f #[vx] w R) (hR : ∀ e w', R e w' → (∃ v, e = .returned v ∧ K (a.put o.dst v) w') ∨ (∃ c, e = .panicked c ∧ Q (.panic c) a w')) :
    if Region.wanted o (yielded ops a.tmps) = true then Oper.wp P o a w K Q else E := by
  obtain ⟨fn, hh, hb, hname⟩ := callable_ok hcal
  obtain ⟨body, hb⟩ := Option.isSome_iff_exists.1 hb
  refine gstep hg f #[x] ts hop hh hb hname ?_ hR
  rw [show (#[x] : Array Operand).map a.eval = #[vx] by simp [hx]]
  exact hc

end Go.Sx
