/- Part HnB of a proof: helper lemmas; no conditions. -/
import Derived.Test.YtadhlkgjiccdpaaGreatDoorHnA
import Derived.Test.YtadhlkgjiccdpaaGreatDoorProg
import Derived.Shelf.Strings.Builder1
import Derived.Shelf.Strings.BuilderF

set_option linter.unusedSimpArgs false
set_option linter.unusedVariables false

namespace Go.Sx
open Go Go.Proofs Go.Shelf Go.RowKit

def lays167_ren : Go.Shelf.Ren := ⟨fun | 167 => 137 | 240 => 171 | 276 => 183 | n => n, fun | 70 => 192 | 5 => 5 | 75 => 197 | 0 => 0 | 72 => 194 | 37 => 27 | 4 => 4 | 164 => 260 | 80 => 152 | 9 => 9 | n => n, fun | n => n⟩
theorem lays167 : Go.Proofs.Lays.n167 Tryz.prog lays167_ren where
  mixed := by kernel_rfl
  f167 := Tryz.func137.trans (congrArg some (by kernel_rfl))
  f240 := Tryz.func171.trans (congrArg some (by kernel_rfl))
  f276 := Tryz.func183.trans (congrArg some (by kernel_rfl))
  t0 := Tryz.underlying0
  a0 := Tryz.isAgg0
  z0 := Tryz.sizeOf0
  v0 := Tryz.zeroValue0
  t4 := Tryz.underlying4
  a4 := Tryz.isAgg4
  z4 := Tryz.sizeOf4
  v4 := Tryz.zeroValue4
  t5 := Tryz.underlying5
  a5 := Tryz.isAgg5
  z5 := Tryz.sizeOf5
  v5 := Tryz.zeroValue5
  t9 := Tryz.underlying9
  a9 := Tryz.isAgg9
  z9 := Tryz.sizeOf9
  v9 := Tryz.zeroValue9
  t20 := Tryz.underlying20
  a20 := Tryz.isAgg20
  z20 := Tryz.sizeOf20
  v20 := Tryz.zeroValue20
  t37 := Tryz.underlying27
  a37 := Tryz.isAgg27
  z37 := Tryz.sizeOf27
  v37 := Tryz.zeroValue27
  t70 := Tryz.underlying192
  a70 := Tryz.isAgg192
  z70 := Tryz.sizeOf192
  v70 := Tryz.zeroValue192
  t72 := Tryz.underlying194
  a72 := Tryz.isAgg194
  z72 := Tryz.sizeOf194
  v72 := Tryz.zeroValue194
  t75 := Tryz.underlying197
  a75 := Tryz.isAgg197
  z75 := Tryz.sizeOf197
  v75 := Tryz.zeroValue197
  t164 := Tryz.underlying260
  a164 := Tryz.isAgg260
  z164 := Tryz.sizeOf260
  v164 := Tryz.zeroValue260

def lays169_ren : Go.Shelf.Ren := ⟨fun | 169 => 138 | n => n, fun | 70 => 192 | 9 => 9 | 0 => 0 | 72 => 194 | 37 => 27 | 127 => 159 | 3 => 3 | 5 => 5 | n => n, fun | n => n⟩
theorem lays169 : Go.Proofs.Lays.n169 Tryz.prog lays169_ren where
  mixed := by kernel_rfl
  f169 := Tryz.func138.trans (congrArg some (by kernel_rfl))
  t0 := Tryz.underlying0
  a0 := Tryz.isAgg0
  z0 := Tryz.sizeOf0
  v0 := Tryz.zeroValue0
  t3 := Tryz.underlying3
  a3 := Tryz.isAgg3
  z3 := Tryz.sizeOf3
  v3 := Tryz.zeroValue3
  t9 := Tryz.underlying9
  a9 := Tryz.isAgg9
  z9 := Tryz.sizeOf9
  v9 := Tryz.zeroValue9
  t37 := Tryz.underlying27
  a37 := Tryz.isAgg27
  z37 := Tryz.sizeOf27
  v37 := Tryz.zeroValue27
  t70 := Tryz.underlying192
  a70 := Tryz.isAgg192
  z70 := Tryz.sizeOf192
  v70 := Tryz.zeroValue192
  t72 := Tryz.underlying194
  a72 := Tryz.isAgg194
  z72 := Tryz.sizeOf194
  v72 := Tryz.zeroValue194
  t127 := Tryz.underlying159
  a127 := Tryz.isAgg159
  z127 := Tryz.sizeOf159
  v127 := Tryz.zeroValue159

theorem extra167 : Go.Proofs.Builder.Extra Tryz.prog lays167_ren := { sizeBuilder := by kernel_rfl, liesBuilder := by kernel_rfl, t5 := Tryz.underlying5, a5 := Tryz.isAgg5, z5 := Tryz.sizeOf5, v5 := Tryz.zeroValue5, infoByte := by kernel_rfl, cellsByte := by kernel_rfl, sizeByte := by kernel_rfl, neB5 := by decide }
theorem extra169 : Go.Proofs.Builder.Extra Tryz.prog lays169_ren := { sizeBuilder := by kernel_rfl, liesBuilder := by kernel_rfl, t5 := Tryz.underlying5, a5 := Tryz.isAgg5, z5 := Tryz.sizeOf5, v5 := Tryz.zeroValue5, infoByte := by kernel_rfl, cellsByte := by kernel_rfl, sizeByte := by kernel_rfl, neB5 := by decide }

def BldIs (b n : Nat) (w0 w : World) : Prop := ∃ l : List UInt8, l.length = n ∧ Lib.IsBuilder 194 5 w0.heap.size b (Lib.byteCells l) w ∧ w0.grownBy w none

theorem grown_of_below0 {w w' : World} (h : Below w.heap.size w w') : w.grownBy w' none := ⟨h.os, h.tape, h.output, h.size, fun k hk _ => h.block k hk⟩

theorem grown_below {w0 w w' : World} (h : w0.grownBy w none) (hb : Below w0.heap.size w w') : w0.grownBy w' none :=
  ⟨hb.os.trans h.os, hb.tape.trans h.tape, hb.output.trans h.output, Nat.le_trans h.size hb.size, fun k hk _ => (hb.block k hk).trans (h.block k hk (by simp))⟩

theorem bld_fresh (w : World) : BldIs w.heap.size 0 w (w.alloc (.cells #[.pointer none, .slice none 0 0] 194)) :=
  ⟨[], rfl, Lib.fresh_isBuilder _ _ _, grown_alloc w _⟩

theorem BldIs.drew {b n : Nat} {w0 w : World} (h : BldIs b n w0 w) : BldIs b n w0 w.drew := by
  obtain ⟨l, h1, h2, h3⟩ := h
  exact ⟨l, h1, h2, grown_trans h3 (grown_drew0 w)⟩

theorem isBuilderF_kept {T e : TypeId} {B b : Nat} {bs : List Value} {w w' : World} (h : Lib.IsBuilderF T e B b bs w) (hg : w.grownBy w' none) : Lib.IsBuilderF T e B b bs w' := by
  rcases h with h | h
  · obtain ⟨hB, v, hb, hown, hne⟩ := h
    exact .inl ⟨hB, v, (hg.block b (lt_of_blk hb) (by simp)).trans hb, ⟨hown.1, hown.2.imp id (fun ⟨g, cap, cur, fz, h1, h2, h3, r⟩ => ⟨g, cap, cur, fz, h1, h2, (hg.block g (lt_of_blk h3) (by simp)).trans h3, r⟩)⟩, hne⟩
  · obtain ⟨hB, v, hb, hown, hne⟩ := h
    exact .inr ⟨hB, v, (hg.block b (lt_of_blk hb) (by simp)).trans hb, ⟨hown.1, hown.2.imp id (fun ⟨g, cap, cur, fz, h1, h2, h3, r⟩ => ⟨g, cap, cur, fz, h1, h2, (hg.block g (lt_of_blk h3) (by simp)).trans h3, r⟩)⟩, hne⟩

def BldF (b n : Nat) (w0 w : World) : Prop := ∃ l : List UInt8, l.length = n ∧ Lib.IsBuilderF 194 5 w0.heap.size b (Lib.byteCells l) w ∧ w0.grownBy w none

theorem BldIs.f {b n : Nat} {w0 w : World} (h : BldIs b n w0 w) : BldF b n w0 w := by
  obtain ⟨l, h1, h2, h3⟩ := h
  exact ⟨l, h1, Lib.IsBuilderF.of h2, h3⟩

theorem BldF.kept {b n : Nat} {w0 w w' : World} (h : BldF b n w0 w) (hg : w.grownBy w' none) : BldF b n w0 w' := by
  obtain ⟨l, h1, h2, h3⟩ := h
  exact ⟨l, h1, isBuilderF_kept h2 hg, grown_trans h3 hg⟩

theorem bld_string_f {b n : Nat} {w0 w : World} (h : BldF b n w0 w) : Calls Tryz.prog 138 #[.pointer (some ⟨b, 0, none⟩)] w fun e w' => (∃ s : ByteArray, s.size = n ∧ e = .returned (.string s)) ∧ BldF b n w0 w' := by
  obtain ⟨l, hl, hb, hg⟩ := h
  have hcon := Any.Builder_String_any_f lays169 extra169 w0.heap.size b l w hb hg.size
  refine Calls.mono (show Calls Tryz.prog 138 _ _ _ from hcon) ?_
  rintro e w' ⟨rfl, h2, h3⟩
  exact ⟨⟨_, by simpa [ByteArray.size] using hl, rfl⟩, l, hl, h2, grown_below hg h3⟩

end Go.Sx
