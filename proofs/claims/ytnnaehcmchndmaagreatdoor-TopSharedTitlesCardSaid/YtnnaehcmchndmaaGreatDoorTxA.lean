/- Part TxA of a proof: helper lemmas; no conditions. -/
import Derived.Test.YtnnaehcmchndmaaGreatDoorHnB
import Derived.Test.YtnnaehcmchndmaaGreatDoorLT
import Derived.Shelf.Strings.BuilderK
import Derived.Shelf.Strconv.Itoa3
import Derived.Lib.ItoaLen

set_option linter.unusedSimpArgs false
set_option linter.unusedVariables false

namespace Go.Sx
open Go Go.Proofs Go.Shelf Go.RowKit Go.Sort

def lays166_ren : Go.Shelf.Ren := ⟨fun | 166 => 140 | 240 => 240 | 276 => 315 | n => n, fun | 70 => 211 | 9 => 9 | 3 => 3 | 75 => 216 | 0 => 0 | 72 => 213 | 37 => 29 | 4 => 4 | 164 => 436 | 80 => 219 | 5 => 5 | n => n, fun | n => n⟩
theorem lays166 : Go.Proofs.Lays.n166 Tryz.prog lays166_ren where
  mixed := by kernel_rfl
  f166 := Tryz.func140.trans (congrArg some (by kernel_rfl))
  f240 := Tryz.func240.trans (congrArg some (by kernel_rfl))
  f276 := Tryz.func315.trans (congrArg some (by kernel_rfl))
  t0 := Tryz.underlying0
  a0 := Tryz.isAgg0
  z0 := Tryz.sizeOf0
  v0 := Tryz.zeroValue0
  t3 := Tryz.underlying3
  a3 := Tryz.isAgg3
  z3 := Tryz.sizeOf3
  v3 := Tryz.zeroValue3
  t4 := Tryz.underlying4
  a4 := Tryz.isAgg4
  z4 := Tryz.sizeOf4
  v4 := Tryz.zeroValue4
  t9 := Tryz.underlying9
  a9 := Tryz.isAgg9
  z9 := Tryz.sizeOf9
  v9 := Tryz.zeroValue9
  t20 := Tryz.underlying20
  a20 := Tryz.isAgg20
  z20 := Tryz.sizeOf20
  v20 := Tryz.zeroValue20
  t37 := Tryz.underlying29
  a37 := Tryz.isAgg29
  z37 := Tryz.sizeOf29
  v37 := Tryz.zeroValue29
  t70 := Tryz.underlying211
  a70 := Tryz.isAgg211
  z70 := Tryz.sizeOf211
  v70 := Tryz.zeroValue211
  t72 := Tryz.underlying213
  a72 := Tryz.isAgg213
  z72 := Tryz.sizeOf213
  v72 := Tryz.zeroValue213
  t75 := Tryz.underlying216
  a75 := Tryz.isAgg216
  z75 := Tryz.sizeOf216
  v75 := Tryz.zeroValue216
  t164 := Tryz.underlying436
  a164 := Tryz.isAgg436
  z164 := Tryz.sizeOf436
  v164 := Tryz.zeroValue436

def lays171_ren : Go.Shelf.Ren := ⟨fun | 171 => 126 | 243 => 232 | 246 => 298 | 283 => 334 | 284 => 335 | 285 => 336 | 286 => 337 | 129 => 366 | 317 => 381 | 318 => 382 | 319 => 383 | 320 => 384 | 337 => 406 | 338 => 407 | n => n, fun | 3 => 3 | 9 => 9 | 2 => 2 | 4 => 4 | 171 => 460 | 0 => 0 | 53 => 461 | 37 => 29 | 5 => 5 | 173 => 464 | 212 => 502 | 51 => 349 | 20 => 20 | 213 => 503 | 46 => 187 | 232 => 533 | 233 => 534 | n => n, fun | 17 => 2 | 18 => 8 | 19 => 9 | n => n⟩
theorem lays171 : Go.Proofs.LaysM.n171 Tryz.prog lays171_ren where
  mixed := by kernel_rfl
  f129 := Tryz.func366.trans (congrArg some (by kernel_rfl))
  f171 := Tryz.func126.trans (congrArg some (by kernel_rfl))
  f243 := Tryz.func232.trans (congrArg some (by kernel_rfl))
  f246 := Tryz.func298.trans (congrArg some (by kernel_rfl))
  f283 := Tryz.func334.trans (congrArg some (by kernel_rfl))
  f284 := Tryz.func335.trans (congrArg some (by kernel_rfl))
  f285 := Tryz.func336.trans (congrArg some (by kernel_rfl))
  f286 := Tryz.func337.trans (congrArg some (by kernel_rfl))
  f317 := Tryz.func381.trans (congrArg some (by kernel_rfl))
  f318 := Tryz.func382.trans (congrArg some (by kernel_rfl))
  f319 := Tryz.func383.trans (congrArg some (by kernel_rfl))
  f320 := Tryz.func384.trans (congrArg some (by kernel_rfl))
  f337 := Tryz.func406.trans (congrArg some (by kernel_rfl))
  f338 := Tryz.func407.trans (congrArg some (by kernel_rfl))
  t0 := Tryz.underlying0
  a0 := Tryz.isAgg0
  z0 := Tryz.sizeOf0
  v0 := Tryz.zeroValue0
  t2 := Tryz.underlying2
  a2 := Tryz.isAgg2
  z2 := Tryz.sizeOf2
  v2 := Tryz.zeroValue2
  t3 := Tryz.underlying3
  a3 := Tryz.isAgg3
  z3 := Tryz.sizeOf3
  v3 := Tryz.zeroValue3
  t4 := Tryz.underlying4
  a4 := Tryz.isAgg4
  z4 := Tryz.sizeOf4
  v4 := Tryz.zeroValue4
  t5 := Tryz.underlying5
  a5 := Tryz.isAgg5
  z5 := Tryz.sizeOf5
  v5 := Tryz.zeroValue5
  t9 := Tryz.underlying9
  a9 := Tryz.isAgg9
  z9 := Tryz.sizeOf9
  v9 := Tryz.zeroValue9
  t20 := Tryz.underlying20
  a20 := Tryz.isAgg20
  z20 := Tryz.sizeOf20
  v20 := Tryz.zeroValue20
  t37 := Tryz.underlying29
  a37 := Tryz.isAgg29
  z37 := Tryz.sizeOf29
  v37 := Tryz.zeroValue29
  t46 := Tryz.underlying187
  a46 := Tryz.isAgg187
  z46 := Tryz.sizeOf187
  v46 := Tryz.zeroValue187
  t51 := Tryz.underlying349
  a51 := Tryz.isAgg349
  z51 := Tryz.sizeOf349
  v51 := Tryz.zeroValue349
  t53 := Tryz.underlying461
  a53 := Tryz.isAgg461
  z53 := Tryz.sizeOf461
  v53 := Tryz.zeroValue461
  t171 := Tryz.underlying460
  a171 := Tryz.isAgg460
  z171 := Tryz.sizeOf460
  v171 := Tryz.zeroValue460
  t173 := Tryz.underlying464
  a173 := Tryz.isAgg464
  z173 := Tryz.sizeOf464
  v173 := Tryz.zeroValue464
  t212 := Tryz.underlying502
  a212 := Tryz.isAgg502
  z212 := Tryz.sizeOf502
  v212 := Tryz.zeroValue502
  t213 := Tryz.underlying503
  a213 := Tryz.isAgg503
  z213 := Tryz.sizeOf503
  t232 := Tryz.underlying533
  a232 := Tryz.isAgg533
  z232 := Tryz.sizeOf533
  v232 := Tryz.zeroValue533
  t233 := Tryz.underlying534
  a233 := Tryz.isAgg534
  z233 := Tryz.sizeOf534
  v233 := Tryz.zeroValue534
  g17 := by kernel_rfl
  g18 := by kernel_rfl
  g19 := by kernel_rfl
  i0 := by kernel_rfl
  i2 := by kernel_rfl
  i3 := by kernel_rfl
  i4 := by kernel_rfl
  i5 := by kernel_rfl
  i9 := by kernel_rfl
  i20 := by kernel_rfl
  i37 := by kernel_rfl
  i46 := by kernel_rfl
  i51 := by kernel_rfl
  i53 := by kernel_rfl
  i171 := by kernel_rfl
  i173 := by kernel_rfl
  i212 := by kernel_rfl
  i232 := by kernel_rfl
  i233 := by kernel_rfl
  m17 := by kernel_rfl
  m18 := by kernel_rfl
  m19 := by kernel_rfl

theorem extra166 : Go.Proofs.Builder.Extra Tryz.prog lays166_ren := { sizeBuilder := by kernel_rfl, liesBuilder := by kernel_rfl, t5 := Tryz.underlying5, a5 := Tryz.isAgg5, z5 := Tryz.sizeOf5, v5 := Tryz.zeroValue5, infoByte := by kernel_rfl, cellsByte := by kernel_rfl, sizeByte := by kernel_rfl, neB5 := by decide }

def Beside (b : Nat) (w w' : World) : Prop := Lib.OthersKept 5 (some b) w w'

theorem Beside.refl (b : Nat) (w : World) : Beside b w w := Lib.OthersKept.refl _ _ _
theorem Beside.trans {b : Nat} {w w' w'' : World} (h : Beside b w w') (k : Beside b w' w'') : Beside b w w'' := Lib.OthersKept.trans h k
theorem Beside.grown {b : Nat} {w w' : World} (h : w.grownBy w' none) : Beside b w w' := fun k o hk _ _ => (h.block k (by
  rcases Nat.lt_or_ge k w.heap.size with h' | h'
  · exact h'
  · rw [Array.getElem?_eq_none h'] at hk; cases hk) (by simp)).trans hk
theorem Beside.cells {b k : Nat} {w w' : World} {cs : Array Value} {E : TypeId} {fz : Nat × Nat} (h : Beside b w w') (hk : w.heap[k]? = some (.cells cs E fz)) (hb : k ≠ b) (hE : E ≠ 5) : w'.heap[k]? = some (.cells cs E fz) :=
  h k _ hk (fun e => hb (Option.some.inj e)) (fun c fz' e => hE (by cases e; rfl))

theorem bldf_byte {b n : Nat} {w0 w : World} {c : Int} (h : BldF b n w0 w) (hn : n ≤ 1099511627776) (h0 : 0 ≤ c) (h1 : c ≤ 255) :
    Calls Tryz.prog 213 #[.pointer (some ⟨b, 0, none⟩), .int .u8 c] w fun e w' => e = .returned .nilIface ∧ BldF b (n + 1) w0 w' ∧ Beside b w w' := by
  obtain ⟨l, hl, hb, hg⟩ := h
  have hcon := Any.Builder_WriteByte_k lays167 extra167 w0.heap.size b (Lib.byteCells l) c w hb (by rw [Lib.byteCells_length]; omega) hg.size
  refine Calls.mono (show Calls Tryz.prog 213 _ _ _ from hcon) ?_
  rintro e w' ⟨rfl, h2, h3, h4⟩
  refine ⟨rfl, ⟨l ++ [UInt8.ofNat c.toNat], by simp [hl], .inr ?_, grown_below hg h3⟩, h4⟩
  have e1 : Lib.byteCells (l ++ [UInt8.ofNat c.toNat]) = Lib.byteCells l ++ [.int .u8 c] := by
    simp [Lib.byteCells]
    omega
  rw [e1]
  exact h2

theorem strCells_bytes (s : ByteArray) : Lib.strCells s = Lib.byteCells s.data.toList := by
  simp [Lib.strCells, Lib.byteCells]

theorem bldf_str {b n : Nat} {w0 w : World} {s : ByteArray} (h : BldF b n w0 w) (hn : n + s.size ≤ 1099511627776) :
    Calls Tryz.prog 140 #[.pointer (some ⟨b, 0, none⟩), .string s] w fun e w' => e = .returned (.tuple #[.int .i64 s.size, .nilIface]) ∧ BldF b (n + s.size) w0 w' ∧ Beside b w w' := by
  obtain ⟨l, hl, hb, hg⟩ := h
  have hcon := Any.Builder_WriteString_k lays166 extra166 w0.heap.size b (Lib.byteCells l) s w hb (by rw [Lib.byteCells_length]; omega) hg.size
  refine Calls.mono (show Calls Tryz.prog 140 _ _ _ from hcon) ?_
  rintro e w' ⟨rfl, h2, h3, h4⟩
  refine ⟨rfl, ⟨l ++ s.data.toList, by rw [List.length_append, hl, Array.length_toList]; rfl, .inr ?_, grown_below hg h3⟩, h4⟩
  have e1 : Lib.byteCells (l ++ s.data.toList) = Lib.byteCells l ++ Lib.strCells s := by
    rw [strCells_bytes]; simp [Lib.byteCells]
  rw [e1]
  exact h2

theorem itoa_call {χ : Chi} {w : World} {z : Int} (hinv : Inv Tryz.prog χ w) (hgl : GlOK χ [(2, tabC)]) (h0 : -9223372036854775808 ≤ z) (h1 : z ≤ 9223372036854775807) :
    Calls Tryz.prog 126 #[.int .i64 z] w fun e w' => (∃ s : ByteArray, s = ⟨(Lib.itoa z).toArray⟩ ∧ e = .returned (.string s) ∧ s.size ≤ 21) ∧ w.grownBy w' none := by
  have htab := tab_is hinv hgl (show Tryz.prog.globalNamed "internal/strconv.uint64pow10" = some 2 by kernel_rfl)
  have hcon := Any.strconv_Itoa lays171 z h0 h1 w htab
  refine Calls.mono (show Calls Tryz.prog 126 _ _ _ from hcon) ?_
  rintro e w' ⟨rfl, k, os, rfl⟩
  have hlen := Lib.itoa_length_le z h0 h1
  refine ⟨⟨_, rfl, rfl, by show (Lib.itoa z).toArray.size ≤ 21; rw [List.size_toArray]; omega⟩, rfl, rfl, rfl, ?_, fun i hi _ => ?_⟩
  · show w.heap.size ≤ (w.heap ++ os).size
    simp
  · show (w.heap ++ os)[i]? = w.heap[i]?
    exact Array.getElem?_append_left hi

end Go.Sx
