/- Part TxF of a proof: helper lemmas; no conditions. -/
import Derived.Test.YtadhlkgjiccdpaaGreatDoorHnA
import Derived.Shelf.Small.Strs
import Derived.Shelf.Small.Wraps
import Derived.Shelf.Strconv.AtoiAll
import Derived.Test.YtadhlkgjiccdpaaGreatDoorProg
import Derived.Test.YtadhlkgjiccdpaaGreatDoorTgM

set_option linter.unusedSimpArgs false
set_option linter.unusedVariables false

namespace Go.Sx
open Go Go.Proofs Go.Shelf Go.RowKit Go.Sort

def lays137_ren : Go.Shelf.Ren := ⟨fun | 137 => 173 | 217 => 185 | 266 => 202 | n => n, fun | 9 => 9 | 5 => 5 | 3 => 3 | n => n, fun | n => n⟩
theorem lays137 : Go.Proofs.Lays.n137 Tryz.prog lays137_ren where
  mixed := by kernel_rfl
  f137 := Tryz.func173.trans (congrArg some (by kernel_rfl))
  f217 := Tryz.func185.trans (congrArg some (by kernel_rfl))
  f266 := Tryz.func202.trans (congrArg some (by kernel_rfl))
  t3 := Tryz.underlying3
  a3 := Tryz.isAgg3
  z3 := Tryz.sizeOf3
  v3 := Tryz.zeroValue3
  t5 := Tryz.underlying5
  a5 := Tryz.isAgg5
  z5 := Tryz.sizeOf5
  v5 := Tryz.zeroValue5
  t9 := Tryz.underlying9
  a9 := Tryz.isAgg9
  z9 := Tryz.sizeOf9
  v9 := Tryz.zeroValue9

def lays103_ren : Go.Shelf.Ren := ⟨fun | 103 => 188 | 210 => 208 | 206 => 223 | n => n, fun | 9 => 9 | 4 => 4 | 24 => 264 | 3 => 3 | n => n, fun | n => n⟩
theorem lays103 : Go.Proofs.Lays.n103 Tryz.prog lays103_ren where
  mixed := by kernel_rfl
  f103 := Tryz.func188.trans (congrArg some (by kernel_rfl))
  f206 := Tryz.func223.trans (congrArg some (by kernel_rfl))
  f210 := Tryz.func208.trans (congrArg some (by kernel_rfl))
  t3 := Tryz.underlying3
  a3 := Tryz.isAgg3
  z3 := Tryz.sizeOf3
  v3 := Tryz.zeroValue3
  t4 := Tryz.underlying4
  a4 := Tryz.isAgg4
  z4 := Tryz.sizeOf4
  v4 := Tryz.zeroValue4
  t9 := Tryz.underlying9
  a9 := Tryz.isAgg9
  z9 := Tryz.sizeOf9
  v9 := Tryz.zeroValue9
  t24 := Tryz.underlying264
  a24 := Tryz.isAgg264
  z24 := Tryz.sizeOf264
  v24 := Tryz.zeroValue264

def lays172_ren : Go.Shelf.Ren := ⟨fun | 172 => 175 | 244 => 186 | 245 => 187 | 247 => 203 | 279 => 204 | 280 => 205 | 281 => 206 | 282 => 207 | 287 => 220 | 316 => 221 | 171 => 136 | 205 => 222 | 321 => 229 | 322 => 230 | 243 => 172 | 246 => 184 | 283 => 198 | 284 => 199 | 285 => 200 | 286 => 201 | 129 => 216 | 317 => 215 | 318 => 217 | 319 => 218 | 320 => 219 | 337 => 227 | 338 => 228 | n => n, fun | 9 => 9 | 3 => 3 | 75 => 197 | 76 => 198 | 4 => 4 | 5 => 5 | 167 => 280 | 37 => 27 | 0 => 0 | 85 => 281 | 2 => 2 | 168 => 283 | 53 => 275 | 175 => 296 | 46 => 191 | 210 => 299 | 127 => 159 | 145 => 307 | 143 => 305 | 21 => 21 | 171 => 274 | 173 => 278 | 212 => 293 | 51 => 24 | 20 => 20 | 213 => 294 | 232 => 314 | 233 => 315 | 80 => 152 | n => n, fun | 15 => 2 | 16 => 3 | 17 => 0 | 18 => 6 | 19 => 7 | n => n⟩
theorem lays172 : Go.Proofs.LaysC.n172 Tryz.prog lays172_ren where
  mixed := by kernel_rfl
  f129 := Tryz.func216.trans (congrArg some (by kernel_rfl))
  f171 := Tryz.func136.trans (congrArg some (by kernel_rfl))
  f172 := Tryz.func175.trans (congrArg some (by kernel_rfl))
  f205 := Tryz.func222.trans (congrArg some (by kernel_rfl))
  f243 := Tryz.func172.trans (congrArg some (by kernel_rfl))
  f244 := Tryz.func186.trans (congrArg some (by kernel_rfl))
  f245 := Tryz.func187.trans (congrArg some (by kernel_rfl))
  f246 := Tryz.func184.trans (congrArg some (by kernel_rfl))
  f247 := Tryz.func203.trans (congrArg some (by kernel_rfl))
  f279 := Tryz.func204.trans (congrArg some (by kernel_rfl))
  f280 := Tryz.func205.trans (congrArg some (by kernel_rfl))
  f281 := Tryz.func206.trans (congrArg some (by kernel_rfl))
  f282 := Tryz.func207.trans (congrArg some (by kernel_rfl))
  f283 := Tryz.func198.trans (congrArg some (by kernel_rfl))
  f284 := Tryz.func199.trans (congrArg some (by kernel_rfl))
  f285 := Tryz.func200.trans (congrArg some (by kernel_rfl))
  f286 := Tryz.func201.trans (congrArg some (by kernel_rfl))
  f287 := Tryz.func220.trans (congrArg some (by kernel_rfl))
  f316 := Tryz.func221.trans (congrArg some (by kernel_rfl))
  f317 := Tryz.func215.trans (congrArg some (by kernel_rfl))
  f318 := Tryz.func217.trans (congrArg some (by kernel_rfl))
  f319 := Tryz.func218.trans (congrArg some (by kernel_rfl))
  f320 := Tryz.func219.trans (congrArg some (by kernel_rfl))
  f321 := Tryz.func229.trans (congrArg some (by kernel_rfl))
  f322 := Tryz.func230.trans (congrArg some (by kernel_rfl))
  f337 := Tryz.func227.trans (congrArg some (by kernel_rfl))
  f338 := Tryz.func228.trans (congrArg some (by kernel_rfl))
  t0 := Tryz.underlying0
  a0 := Tryz.isAgg0
  z0 := Tryz.sizeOf0
  v0 := Tryz.zeroValue0
  t2 := Tryz.underlying2
  a2 := Tryz.isAgg2
  z2 := Tryz.sizeOf2
  v2 := Tryz.zeroValue2
  t3 := Tryz.underlying3
  a3 := Tryz.isAgg3
  z3 := Tryz.sizeOf3
  v3 := Tryz.zeroValue3
  t4 := Tryz.underlying4
  a4 := Tryz.isAgg4
  z4 := Tryz.sizeOf4
  v4 := Tryz.zeroValue4
  t5 := Tryz.underlying5
  a5 := Tryz.isAgg5
  z5 := Tryz.sizeOf5
  v5 := Tryz.zeroValue5
  t9 := Tryz.underlying9
  a9 := Tryz.isAgg9
  z9 := Tryz.sizeOf9
  v9 := Tryz.zeroValue9
  t20 := Tryz.underlying20
  a20 := Tryz.isAgg20
  z20 := Tryz.sizeOf20
  v20 := Tryz.zeroValue20
  t21 := Tryz.underlying21
  a21 := Tryz.isAgg21
  z21 := Tryz.sizeOf21
  v21 := Tryz.zeroValue21
  t37 := Tryz.underlying27
  a37 := Tryz.isAgg27
  z37 := Tryz.sizeOf27
  v37 := Tryz.zeroValue27
  t46 := Tryz.underlying191
  a46 := Tryz.isAgg191
  z46 := Tryz.sizeOf191
  v46 := Tryz.zeroValue191
  t51 := Tryz.underlying24
  a51 := Tryz.isAgg24
  z51 := Tryz.sizeOf24
  v51 := Tryz.zeroValue24
  t53 := Tryz.underlying275
  a53 := Tryz.isAgg275
  z53 := Tryz.sizeOf275
  v53 := Tryz.zeroValue275
  t75 := Tryz.underlying197
  a75 := Tryz.isAgg197
  z75 := Tryz.sizeOf197
  v75 := Tryz.zeroValue197
  t76 := Tryz.underlying198
  a76 := Tryz.isAgg198
  z76 := Tryz.sizeOf198
  v76 := Tryz.zeroValue198
  t85 := Tryz.underlying281
  a85 := Tryz.isAgg281
  z85 := Tryz.sizeOf281
  v85 := Tryz.zeroValue281
  t127 := Tryz.underlying159
  a127 := Tryz.isAgg159
  z127 := Tryz.sizeOf159
  v127 := Tryz.zeroValue159
  t143 := Tryz.underlying305
  a143 := Tryz.isAgg305
  z143 := Tryz.sizeOf305
  v143 := Tryz.zeroValue305
  t145 := Tryz.underlying307
  a145 := Tryz.isAgg307
  z145 := Tryz.sizeOf307
  v145 := Tryz.zeroValue307
  t167 := Tryz.underlying280
  a167 := Tryz.isAgg280
  z167 := Tryz.sizeOf280
  v167 := Tryz.zeroValue280
  t168 := Tryz.underlying283
  a168 := Tryz.isAgg283
  z168 := Tryz.sizeOf283
  v168 := Tryz.zeroValue283
  t171 := Tryz.underlying274
  a171 := Tryz.isAgg274
  z171 := Tryz.sizeOf274
  v171 := Tryz.zeroValue274
  t173 := Tryz.underlying278
  a173 := Tryz.isAgg278
  z173 := Tryz.sizeOf278
  v173 := Tryz.zeroValue278
  t175 := Tryz.underlying296
  a175 := Tryz.isAgg296
  z175 := Tryz.sizeOf296
  v175 := Tryz.zeroValue296
  t210 := Tryz.underlying299
  a210 := Tryz.isAgg299
  z210 := Tryz.sizeOf299
  v210 := Tryz.zeroValue299
  t212 := Tryz.underlying293
  a212 := Tryz.isAgg293
  z212 := Tryz.sizeOf293
  v212 := Tryz.zeroValue293
  t213 := Tryz.underlying294
  a213 := Tryz.isAgg294
  z213 := Tryz.sizeOf294
  t232 := Tryz.underlying314
  a232 := Tryz.isAgg314
  z232 := Tryz.sizeOf314
  v232 := Tryz.zeroValue314
  t233 := Tryz.underlying315
  a233 := Tryz.isAgg315
  z233 := Tryz.sizeOf315
  v233 := Tryz.zeroValue315
  g15 := by kernel_rfl
  g16 := by kernel_rfl
  g17 := by kernel_rfl
  g18 := by kernel_rfl
  g19 := by kernel_rfl
  t80 := Tryz.underlying152
  a80 := Tryz.isAgg152
  z80 := Tryz.sizeOf152
  v80 := Tryz.zeroValue152
  i0 := by kernel_rfl
  i2 := by kernel_rfl
  i3 := by kernel_rfl
  i4 := by kernel_rfl
  i5 := by kernel_rfl
  i9 := by kernel_rfl
  i20 := by kernel_rfl
  i21 := by kernel_rfl
  i37 := by kernel_rfl
  i46 := by kernel_rfl
  i51 := by kernel_rfl
  i53 := by kernel_rfl
  i75 := by kernel_rfl
  i76 := by kernel_rfl
  i80 := by kernel_rfl
  i85 := by kernel_rfl
  i127 := by kernel_rfl
  i143 := by kernel_rfl
  i145 := by kernel_rfl
  i167 := by kernel_rfl
  i168 := by kernel_rfl
  i171 := by kernel_rfl
  i173 := by kernel_rfl
  i175 := by kernel_rfl
  i210 := by kernel_rfl
  i212 := by kernel_rfl
  i232 := by kernel_rfl
  i233 := by kernel_rfl
  m15 := by kernel_rfl
  m16 := by kernel_rfl
  m17 := by kernel_rfl
  m18 := by kernel_rfl
  m19 := by kernel_rfl
  c0 := by kernel_rfl
  c2 := by kernel_rfl
  c3 := by kernel_rfl
  c4 := by kernel_rfl
  c5 := by kernel_rfl
  c9 := by kernel_rfl
  c20 := by kernel_rfl
  c21 := by kernel_rfl
  c37 := by kernel_rfl
  c46 := by kernel_rfl
  c51 := by kernel_rfl
  c53 := by kernel_rfl
  c75 := by kernel_rfl
  c76 := by kernel_rfl
  c80 := by kernel_rfl
  c85 := by kernel_rfl
  c127 := by kernel_rfl
  c143 := by kernel_rfl
  c145 := by kernel_rfl
  c167 := by kernel_rfl
  c168 := by kernel_rfl
  c171 := by kernel_rfl
  c173 := by kernel_rfl
  c175 := by kernel_rfl
  c210 := by kernel_rfl
  c212 := by kernel_rfl
  c213 := by kernel_rfl
  c232 := by kernel_rfl
  c233 := by kernel_rfl

theorem indexByte_lt : ∀ (l : List UInt8) (c : UInt8), Lib.indexByte l c < (l.length : Int) := by
  intro l c
  rcases Int.lt_or_le (Lib.indexByte l c) 0 with h | h
  · omega
  · obtain ⟨n, hn⟩ := Int.eq_ofNat_of_zero_le h
    obtain ⟨h1, _⟩ := Lib.indexByte_some (o := n) hn
    have : n < l.length := by
      rcases Nat.lt_or_ge n l.length with h' | h'
      · exact h'
      · rw [List.getElem?_eq_none h'] at h1; cases h1
    omega

theorem indexbyte_call {w : World} {s : ByteArray} {c : Int} : Calls Tryz.prog 173 #[.string s, .int .u8 c] w fun e w' => (∃ r : Int, e = .returned (.int .i64 r) ∧ -1 ≤ r ∧ r < (s.size : Int)) ∧ w' = w := by
  refine Calls.mono (show Calls Tryz.prog 173 _ _ _ from Any.strings_IndexByte lays137 s c w) ?_
  rintro e w' ⟨rfl, rfl⟩
  exact ⟨⟨_, rfl, Lib.indexByte_ge _ _, by have := indexByte_lt s.data.toList c.toNat.toUInt8; rw [Array.length_toList] at this; exact this⟩, rfl⟩

theorem cutprefix_call {w : World} {s p : ByteArray} (hp : 1 ≤ p.size) : Calls Tryz.prog 188 #[.string s, .string p] w fun e w' => (∃ (z : ByteArray) (b : Bool), e = .returned (.tuple #[.string z, .bool b]) ∧ z.size ≤ s.size ∧ (b = true → z.size + 1 ≤ s.size)) ∧ w' = w := by
  refine Calls.mono (show Calls Tryz.prog 188 _ _ _ from Any.strings_CutPrefix lays103 s p w) ?_
  rintro e w' ⟨rfl, rfl⟩
  refine ⟨⟨_, _, rfl, ?_, fun h => ?_⟩, rfl⟩
  · show (Lib.trimPrefix s.data.toList p.data.toList).toArray.size ≤ s.data.size
    rw [List.size_toArray]
    unfold Lib.trimPrefix
    split
    · rw [List.length_drop, Array.length_toList]; omega
    · rw [Array.length_toList]; exact Nat.le_refl _
  · show (Lib.trimPrefix s.data.toList p.data.toList).toArray.size + 1 ≤ s.data.size
    have hl := (List.isPrefixOf_iff_prefix.1 (show p.data.toList.isPrefixOf s.data.toList = true from h)).length_le
    have hp' : 1 ≤ p.data.size := hp
    rw [Array.length_toList, Array.length_toList] at hl
    rw [List.size_toArray]
    unfold Lib.trimPrefix
    rw [if_pos h, List.length_drop, Array.length_toList, Array.length_toList]
    omega

theorem grown_below1 {w w' : World} (h : Below w.heap.size w w') : w.grownBy w' none := ⟨h.os, h.tape, h.output, h.size, fun k hk _ => h.block k hk⟩

theorem atoi_call {w : World} {s : ByteArray} {u1 u2 : TypeId} {v1 v2 : Value} (hs : s.size ≤ 281474976710656) (h1 : w.cell? ⟨2, 0, none⟩ = some (.iface u1 v1)) (h2 : w.cell? ⟨3, 0, none⟩ = some (.iface u2 v2)) :
    Calls Tryz.prog 175 #[.string s] w fun e w' => (∃ (n : Int) (ev : Value), e = .returned (.tuple #[.int .i64 n, ev]) ∧ -9223372036854775808 ≤ n ∧ n ≤ 9223372036854775807 ∧ (ev = .nilIface ∨ ∃ t x, ev = .iface t x)) ∧ w.grownBy w' none := by
  rcases h : Lib.atoiAll s.data.toList with v | _ | _
  · refine Calls.mono (show Calls Tryz.prog 175 _ _ _ from Any.strconv_Atoi_ok lays172 s (by omega) v h w) ?_
    rintro e w' ⟨rfl, hw⟩
    refine ⟨⟨v, _, rfl, (Lib.atoiAll_bounds h).1, (Lib.atoiAll_bounds h).2, .inl rfl⟩, ?_⟩
    · rcases hw with rfl | ⟨t, rfl⟩
      · exact grown_refl _
      · exact grown_below1 (Lib.bytesWorld_below _ _ _)
  · refine Calls.mono (show Calls Tryz.prog 175 _ _ _ from Any.strconv_Atoi_syntax lays172 s hs h _ w h1 (.inr ⟨_, _, rfl⟩)) ?_
    rintro e w' ⟨N, rfl, _, _, hbl⟩
    exact ⟨⟨0, _, rfl, by omega, by omega, .inr ⟨_, _, rfl⟩⟩, grown_below1 hbl⟩
  · refine Calls.mono (show Calls Tryz.prog 175 _ _ _ from Any.strconv_Atoi_range lays172 s hs h _ w h2 (.inr ⟨_, _, rfl⟩)) ?_
    rintro e w' ⟨N, rfl, _, _, hbl⟩
    exact ⟨⟨_, _, rfl, (Lib.atoiSat_bounds _).1, (Lib.atoiSat_bounds _).2, .inr ⟨_, _, rfl⟩⟩, grown_below1 hbl⟩

end Go.Sx

namespace Go.Sx
open Go Go.Proofs

def RdAt (w : World) (R : Nat) (s : ByteArray) (cnt : Int) : Prop := w.heap[R]? = some (.cells #[.string s, .int .i64 cnt] 204 (0, 0))

theorem RdAt.c0 {w : World} {R : Nat} {s : ByteArray} {cnt : Int} (h : RdAt w R s cnt) : w.cell? ⟨R, 0, none⟩ = some (.string s) := by rw [cell?_blk h]; rfl
theorem RdAt.c1 {w : World} {R : Nat} {s : ByteArray} {cnt : Int} (h : RdAt w R s cnt) : w.cell? ⟨R, 1, none⟩ = some (.int .i64 cnt) := by rw [cell?_blk h]; rfl
theorem RdAt.f {w : World} {R : Nat} {s : ByteArray} {cnt : Int} (h : RdAt w R s cnt) (i : Nat) : w.frozen? ⟨R, i, none⟩ = false := by rw [frozen?_blk h]; simp
theorem RdAt.put0 {w : World} {R : Nat} {s : ByteArray} {cnt : Int} (h : RdAt w R s cnt) (z : ByteArray) : RdAt (w.setCell ⟨R, 0, none⟩ (.string z)) R z cnt ∧ w.grownBy (w.setCell ⟨R, 0, none⟩ (.string z)) (some R) := by
  have hlt := lt_of_blk h
  rw [setCell_blk h]
  exact ⟨by unfold RdAt; rw [setBlk_get hlt, if_pos rfl]; rfl, ⟨rfl, rfl, rfl, by rw [setBlk_size]; exact Nat.le_refl _, fun k hk hn => by rw [setBlk_get hlt, if_neg (fun e => hn (by rw [e]))]⟩⟩
theorem RdAt.put1 {w : World} {R : Nat} {s : ByteArray} {cnt : Int} (h : RdAt w R s cnt) (z : Int) : RdAt (w.setCell ⟨R, 1, none⟩ (.int .i64 z)) R s z ∧ w.grownBy (w.setCell ⟨R, 1, none⟩ (.int .i64 z)) (some R) := by
  have hlt := lt_of_blk h
  rw [setCell_blk h]
  exact ⟨by unfold RdAt; rw [setBlk_get hlt, if_pos rfl]; rfl, ⟨rfl, rfl, rfl, by rw [setBlk_size]; exact Nat.le_refl _, fun k hk hn => by rw [setBlk_get hlt, if_neg (fun e => hn (by rw [e]))]⟩⟩
theorem RdAt.grown {w w' : World} {R : Nat} {s : ByteArray} {cnt : Int} (h : RdAt w R s cnt) (hg : w.grownBy w' none) : RdAt w' R s cnt := (hg.block _ (lt_of_blk h) (by simp)).trans h

def SkipP (w : World) (R : Nat) (s : ByteArray) (cnt : Int) (e : Ending) (w' : World) : Prop :=
  (∃ (z : ByteArray) (b : Bool), e = .returned (.bool b) ∧ z.size ≤ s.size ∧ (b = true → z.size + 1 ≤ s.size) ∧ RdAt w' R z cnt) ∧ w.grownBy w' (some R)

set_option maxRecDepth 100000 in
set_option maxHeartbeats 1600000 in
theorem skip_any {w : World} {R : Nat} {s p : ByteArray} {cnt : Int} (h : RdAt w R s cnt) (hp : 1 ≤ p.size) : Calls Tryz.prog 176 #[.pointer (some ⟨R, 0, none⟩), .string p] w (SkipP w R s cnt) := by
  have c0 := h.c0
  have f0 := h.f 0
  go_enter Tryz.func176, Tryz.ntmps176
  go_wp2_with fail
  refine (cutprefix_call (s := s) hp).mono ?_
  rintro e w2 ⟨⟨z, b, rfl, hz1, hz2⟩, rfl⟩
  obtain ⟨h1, h2⟩ := h.put0 z
  go_wp2_with fail
  exact bodyPost_ret (v := .bool b) (by simp [results, Tryz.results176, go_sem]) rfl ⟨⟨z, b, rfl, hz1, hz2, h1⟩, h2⟩

def RunP (w : World) (R : Nat) (s : ByteArray) (cnt : Int) (e : Ending) (w' : World) : Prop :=
  (∃ (o z : ByteArray), e = .returned (.string o) ∧ o.size ≤ s.size ∧ z.size ≤ s.size ∧ RdAt w' R z cnt) ∧ w.grownBy w' (some R)

set_option maxRecDepth 100000 in
set_option maxHeartbeats 1600000 in
theorem rrun_any {w : World} {R : Nat} {s p : ByteArray} {cnt : Int} (h : RdAt w R s cnt) (hs : s.size ≤ 1048576) : Calls Tryz.prog 174 #[.pointer (some ⟨R, 0, none⟩), .string p] w (RunP w R s cnt) := by
  have c0 := h.c0
  have f0 := h.f 0
  go_enter Tryz.func174, Tryz.ntmps174
  go_wp2_with fail
  go_loopg [5] s.size (fun k q wr => ∃ j : Nat, j + k = s.size ∧ q = .int .i64 (j : Int) ∧ wr = w)
  case atStart => exact ⟨0, by simp, rfl, rfl⟩
  case round =>
    obtain ⟨j, hjk, rfl, rfl⟩ := hrel
    have hj0 : (0 : Int) ≤ (j : Int) := by omega
    have hj1 : (j : Int) ≤ 1099511627776 := by omega
    have hsz : (s.size : Int) ≤ 1099511627776 := by omega
    have z1 : (s.extract 0 j).size ≤ s.size := by rw [ByteArray.size_extract]; have := Nat.min_le_right j s.size; omega
    have z2 : (s.extract j s.size).size ≤ s.size := by rw [ByteArray.size_extract]; have := Nat.min_le_right s.size s.size; omega
    obtain ⟨h1, h2⟩ := h.put0 (s.extract j s.size)
    have hle : (j : Int) ≤ (s.size : Int) := by omega
    have hle2 : j ≤ s.size := by omega
    cases gk with
    | zero =>
      have hil : decide ((j : Int) < (s.size : Int)) = false := by simp; omega
      have hil2 : decide (j < s.size) = false := by simp; omega
      go_wp2_with fail
      exact bodyPost_ret (v := .string (s.extract 0 j)) (by simp [results, Tryz.results174, go_sem]) rfl ⟨⟨_, _, rfl, z1, z2, h1⟩, h2⟩
    | succ k =>
      have hil : decide ((j : Int) < (s.size : Int)) = true := by simp; omega
      have hil2 : decide (j < s.size) = true := by simp; omega
      have hlt : (j : Int) < (s.size : Int) := by omega
      go_wp2_with fail
      refine indexbyte_call.mono ?_
      rintro e w3 ⟨⟨r, rfl, r0, r1⟩, rfl⟩
      by_cases hr : 0 ≤ r
      · have hrb : decide (0 ≤ r) = true := by simpa using hr
        go_wp2_with fail
        go_roundg k
        case measure => exact Nat.lt_succ_self k
        exact ⟨j + 1, by omega, by go_num, rfl⟩
      · have hrb : decide (0 ≤ r) = false := by simpa using hr
        go_wp2_with fail
        exact bodyPost_ret (v := .string (s.extract 0 j)) (by simp [results, Tryz.results174, go_sem]) rfl ⟨⟨_, _, rfl, z1, z2, h1⟩, h2⟩

end Go.Sx
