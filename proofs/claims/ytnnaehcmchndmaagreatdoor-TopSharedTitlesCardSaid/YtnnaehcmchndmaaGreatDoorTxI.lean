/- Part TxI of a proof: helper lemmas; no conditions. -/
import Derived.Test.YtnnaehcmchndmaaGreatDoorHnA
import Derived.Shelf.Strconv.AtoiAll
import Derived.Test.YtnnaehcmchndmaaGreatDoorProg
import Derived.Test.YtnnaehcmchndmaaGreatDoorThF
import Derived.Shelf.Strings.Cut

set_option linter.unusedSimpArgs false
set_option linter.unusedVariables false

namespace Go.Sx
open Go Go.Proofs Go.Shelf Go.RowKit Go.Sort

def lays172_ren : Go.Shelf.Ren := ⟨fun | 172 => 236 | 244 => 310 | 245 => 311 | 247 => 346 | 279 => 347 | 280 => 348 | 281 => 349 | 282 => 350 | 287 => 391 | 316 => 392 | 171 => 126 | 205 => 393 | 321 => 410 | 322 => 411 | 243 => 232 | 246 => 298 | 283 => 334 | 284 => 335 | 285 => 336 | 286 => 337 | 129 => 366 | 317 => 381 | 318 => 382 | 319 => 383 | 320 => 384 | 337 => 406 | 338 => 407 | n => n, fun | 9 => 9 | 3 => 3 | 75 => 216 | 76 => 217 | 4 => 4 | 5 => 5 | 167 => 472 | 37 => 29 | 0 => 0 | 85 => 473 | 2 => 2 | 168 => 475 | 53 => 461 | 175 => 505 | 46 => 187 | 210 => 508 | 127 => 354 | 145 => 528 | 143 => 526 | 21 => 21 | 171 => 460 | 173 => 464 | 212 => 502 | 51 => 349 | 20 => 20 | 213 => 503 | 232 => 533 | 233 => 534 | 80 => 219 | n => n, fun | 15 => 4 | 16 => 5 | 17 => 2 | 18 => 8 | 19 => 9 | n => n⟩
theorem lays172 : Go.Proofs.LaysC.n172 Tryz.prog lays172_ren where
  mixed := by kernel_rfl
  f129 := Tryz.func366.trans (congrArg some (by kernel_rfl))
  f171 := Tryz.func126.trans (congrArg some (by kernel_rfl))
  f172 := Tryz.func236.trans (congrArg some (by kernel_rfl))
  f205 := Tryz.func393.trans (congrArg some (by kernel_rfl))
  f243 := Tryz.func232.trans (congrArg some (by kernel_rfl))
  f244 := Tryz.func310.trans (congrArg some (by kernel_rfl))
  f245 := Tryz.func311.trans (congrArg some (by kernel_rfl))
  f246 := Tryz.func298.trans (congrArg some (by kernel_rfl))
  f247 := Tryz.func346.trans (congrArg some (by kernel_rfl))
  f279 := Tryz.func347.trans (congrArg some (by kernel_rfl))
  f280 := Tryz.func348.trans (congrArg some (by kernel_rfl))
  f281 := Tryz.func349.trans (congrArg some (by kernel_rfl))
  f282 := Tryz.func350.trans (congrArg some (by kernel_rfl))
  f283 := Tryz.func334.trans (congrArg some (by kernel_rfl))
  f284 := Tryz.func335.trans (congrArg some (by kernel_rfl))
  f285 := Tryz.func336.trans (congrArg some (by kernel_rfl))
  f286 := Tryz.func337.trans (congrArg some (by kernel_rfl))
  f287 := Tryz.func391.trans (congrArg some (by kernel_rfl))
  f316 := Tryz.func392.trans (congrArg some (by kernel_rfl))
  f317 := Tryz.func381.trans (congrArg some (by kernel_rfl))
  f318 := Tryz.func382.trans (congrArg some (by kernel_rfl))
  f319 := Tryz.func383.trans (congrArg some (by kernel_rfl))
  f320 := Tryz.func384.trans (congrArg some (by kernel_rfl))
  f321 := Tryz.func410.trans (congrArg some (by kernel_rfl))
  f322 := Tryz.func411.trans (congrArg some (by kernel_rfl))
  f337 := Tryz.func406.trans (congrArg some (by kernel_rfl))
  f338 := Tryz.func407.trans (congrArg some (by kernel_rfl))
  t0 := Tryz.underlying0
  a0 := Tryz.isAgg0
  z0 := Tryz.sizeOf0
  v0 := Tryz.zeroValue0
  t2 := Tryz.underlying2
  a2 := Tryz.isAgg2
  z2 := Tryz.sizeOf2
  v2 := Tryz.zeroValue2
  t3 := Tryz.underlying3
  a3 := Tryz.isAgg3
  z3 := Tryz.sizeOf3
  v3 := Tryz.zeroValue3
  t4 := Tryz.underlying4
  a4 := Tryz.isAgg4
  z4 := Tryz.sizeOf4
  v4 := Tryz.zeroValue4
  t5 := Tryz.underlying5
  a5 := Tryz.isAgg5
  z5 := Tryz.sizeOf5
  v5 := Tryz.zeroValue5
  t9 := Tryz.underlying9
  a9 := Tryz.isAgg9
  z9 := Tryz.sizeOf9
  v9 := Tryz.zeroValue9
  t20 := Tryz.underlying20
  a20 := Tryz.isAgg20
  z20 := Tryz.sizeOf20
  v20 := Tryz.zeroValue20
  t21 := Tryz.underlying21
  a21 := Tryz.isAgg21
  z21 := Tryz.sizeOf21
  v21 := Tryz.zeroValue21
  t37 := Tryz.underlying29
  a37 := Tryz.isAgg29
  z37 := Tryz.sizeOf29
  v37 := Tryz.zeroValue29
  t46 := Tryz.underlying187
  a46 := Tryz.isAgg187
  z46 := Tryz.sizeOf187
  v46 := Tryz.zeroValue187
  t51 := Tryz.underlying349
  a51 := Tryz.isAgg349
  z51 := Tryz.sizeOf349
  v51 := Tryz.zeroValue349
  t53 := Tryz.underlying461
  a53 := Tryz.isAgg461
  z53 := Tryz.sizeOf461
  v53 := Tryz.zeroValue461
  t75 := Tryz.underlying216
  a75 := Tryz.isAgg216
  z75 := Tryz.sizeOf216
  v75 := Tryz.zeroValue216
  t76 := Tryz.underlying217
  a76 := Tryz.isAgg217
  z76 := Tryz.sizeOf217
  v76 := Tryz.zeroValue217
  t85 := Tryz.underlying473
  a85 := Tryz.isAgg473
  z85 := Tryz.sizeOf473
  v85 := Tryz.zeroValue473
  t127 := Tryz.underlying354
  a127 := Tryz.isAgg354
  z127 := Tryz.sizeOf354
  v127 := Tryz.zeroValue354
  t143 := Tryz.underlying526
  a143 := Tryz.isAgg526
  z143 := Tryz.sizeOf526
  v143 := Tryz.zeroValue526
  t145 := Tryz.underlying528
  a145 := Tryz.isAgg528
  z145 := Tryz.sizeOf528
  v145 := Tryz.zeroValue528
  t167 := Tryz.underlying472
  a167 := Tryz.isAgg472
  z167 := Tryz.sizeOf472
  v167 := Tryz.zeroValue472
  t168 := Tryz.underlying475
  a168 := Tryz.isAgg475
  z168 := Tryz.sizeOf475
  v168 := Tryz.zeroValue475
  t171 := Tryz.underlying460
  a171 := Tryz.isAgg460
  z171 := Tryz.sizeOf460
  v171 := Tryz.zeroValue460
  t173 := Tryz.underlying464
  a173 := Tryz.isAgg464
  z173 := Tryz.sizeOf464
  v173 := Tryz.zeroValue464
  t175 := Tryz.underlying505
  a175 := Tryz.isAgg505
  z175 := Tryz.sizeOf505
  v175 := Tryz.zeroValue505
  t210 := Tryz.underlying508
  a210 := Tryz.isAgg508
  z210 := Tryz.sizeOf508
  v210 := Tryz.zeroValue508
  t212 := Tryz.underlying502
  a212 := Tryz.isAgg502
  z212 := Tryz.sizeOf502
  v212 := Tryz.zeroValue502
  t213 := Tryz.underlying503
  a213 := Tryz.isAgg503
  z213 := Tryz.sizeOf503
  t232 := Tryz.underlying533
  a232 := Tryz.isAgg533
  z232 := Tryz.sizeOf533
  v232 := Tryz.zeroValue533
  t233 := Tryz.underlying534
  a233 := Tryz.isAgg534
  z233 := Tryz.sizeOf534
  v233 := Tryz.zeroValue534
  g15 := by kernel_rfl
  g16 := by kernel_rfl
  g17 := by kernel_rfl
  g18 := by kernel_rfl
  g19 := by kernel_rfl
  t80 := Tryz.underlying219
  a80 := Tryz.isAgg219
  z80 := Tryz.sizeOf219
  v80 := Tryz.zeroValue219
  i0 := by kernel_rfl
  i2 := by kernel_rfl
  i3 := by kernel_rfl
  i4 := by kernel_rfl
  i5 := by kernel_rfl
  i9 := by kernel_rfl
  i20 := by kernel_rfl
  i21 := by kernel_rfl
  i37 := by kernel_rfl
  i46 := by kernel_rfl
  i51 := by kernel_rfl
  i53 := by kernel_rfl
  i75 := by kernel_rfl
  i76 := by kernel_rfl
  i80 := by kernel_rfl
  i85 := by kernel_rfl
  i127 := by kernel_rfl
  i143 := by kernel_rfl
  i145 := by kernel_rfl
  i167 := by kernel_rfl
  i168 := by kernel_rfl
  i171 := by kernel_rfl
  i173 := by kernel_rfl
  i175 := by kernel_rfl
  i210 := by kernel_rfl
  i212 := by kernel_rfl
  i232 := by kernel_rfl
  i233 := by kernel_rfl
  m15 := by kernel_rfl
  m16 := by kernel_rfl
  m17 := by kernel_rfl
  m18 := by kernel_rfl
  m19 := by kernel_rfl
  c0 := by kernel_rfl
  c2 := by kernel_rfl
  c3 := by kernel_rfl
  c4 := by kernel_rfl
  c5 := by kernel_rfl
  c9 := by kernel_rfl
  c20 := by kernel_rfl
  c21 := by kernel_rfl
  c37 := by kernel_rfl
  c46 := by kernel_rfl
  c51 := by kernel_rfl
  c53 := by kernel_rfl
  c75 := by kernel_rfl
  c76 := by kernel_rfl
  c80 := by kernel_rfl
  c85 := by kernel_rfl
  c127 := by kernel_rfl
  c143 := by kernel_rfl
  c145 := by kernel_rfl
  c167 := by kernel_rfl
  c168 := by kernel_rfl
  c171 := by kernel_rfl
  c173 := by kernel_rfl
  c175 := by kernel_rfl
  c210 := by kernel_rfl
  c212 := by kernel_rfl
  c213 := by kernel_rfl
  c232 := by kernel_rfl
  c233 := by kernel_rfl

theorem grown_below1 {w w' : World} (h : Below w.heap.size w w') : w.grownBy w' none := ⟨h.os, h.tape, h.output, h.size, fun k hk _ => h.block k hk⟩

theorem atoi_call {w : World} {s : ByteArray} {u1 u2 : TypeId} {v1 v2 : Value} (hs : s.size ≤ 281474976710656) (h1 : w.cell? ⟨4, 0, none⟩ = some (.iface u1 v1)) (h2 : w.cell? ⟨5, 0, none⟩ = some (.iface u2 v2)) :
    Calls Tryz.prog 236 #[.string s] w fun e w' => (∃ (n : Int) (ev : Value), e = .returned (.tuple #[.int .i64 n, ev]) ∧ -9223372036854775808 ≤ n ∧ n ≤ 9223372036854775807 ∧ (ev = .nilIface ∨ ∃ t x, ev = .iface t x)) ∧ w.grownBy w' none := by
  rcases h : Lib.atoiAll s.data.toList with v | _ | _
  · refine Calls.mono (show Calls Tryz.prog 236 _ _ _ from Any.strconv_Atoi_ok lays172 s (by omega) v h w) ?_
    rintro e w' ⟨rfl, hw⟩
    refine ⟨⟨v, _, rfl, (Lib.atoiAll_bounds h).1, (Lib.atoiAll_bounds h).2, .inl rfl⟩, ?_⟩
    · rcases hw with rfl | ⟨t, rfl⟩
      · exact grown_refl _
      · exact grown_below1 (Lib.bytesWorld_below _ _ _)
  · refine Calls.mono (show Calls Tryz.prog 236 _ _ _ from Any.strconv_Atoi_syntax lays172 s hs h _ w h1 (.inr ⟨_, _, rfl⟩)) ?_
    rintro e w' ⟨N, rfl, _, _, hbl⟩
    exact ⟨⟨0, _, rfl, by omega, by omega, .inr ⟨_, _, rfl⟩⟩, grown_below1 hbl⟩
  · refine Calls.mono (show Calls Tryz.prog 236 _ _ _ from Any.strconv_Atoi_range lays172 s hs h _ w h2 (.inr ⟨_, _, rfl⟩)) ?_
    rintro e w' ⟨N, rfl, _, _, hbl⟩
    exact ⟨⟨_, _, rfl, (Lib.atoiSat_bounds _).1, (Lib.atoiSat_bounds _).2, .inr ⟨_, _, rfl⟩⟩, grown_below1 hbl⟩

end Go.Sx

namespace Go.Sx
open Go Go.Proofs Go.Shelf Go.RowKit Go.Sort

def lays145_ren : Go.Shelf.Ren := ⟨fun | 145 => 292 | 220 => 333 | 219 => 342 | 217 => 312 | 225 => 386 | 224 => 387 | 267 => 388 | 266 => 351 | 314 => 408 | n => n, fun | 9 => 9 | 4 => 4 | 59 => 415 | 3 => 3 | 5 => 5 | 46 => 187 | 146 => 489 | 51 => 349 | n => n, fun | 1 => 3 | n => n⟩
theorem lays145 : Go.Proofs.Lays.n145 Tryz.prog lays145_ren where
  mixed := by kernel_rfl
  f145 := Tryz.func292.trans (congrArg some (by kernel_rfl))
  f217 := Tryz.func312.trans (congrArg some (by kernel_rfl))
  f219 := Tryz.func342.trans (congrArg some (by kernel_rfl))
  f220 := Tryz.func333.trans (congrArg some (by kernel_rfl))
  f224 := Tryz.func387.trans (congrArg some (by kernel_rfl))
  f225 := Tryz.func386.trans (congrArg some (by kernel_rfl))
  f266 := Tryz.func351.trans (congrArg some (by kernel_rfl))
  f267 := Tryz.func388.trans (congrArg some (by kernel_rfl))
  f314 := Tryz.func408.trans (congrArg some (by kernel_rfl))
  t3 := Tryz.underlying3
  a3 := Tryz.isAgg3
  z3 := Tryz.sizeOf3
  v3 := Tryz.zeroValue3
  t4 := Tryz.underlying4
  a4 := Tryz.isAgg4
  z4 := Tryz.sizeOf4
  v4 := Tryz.zeroValue4
  t5 := Tryz.underlying5
  a5 := Tryz.isAgg5
  z5 := Tryz.sizeOf5
  v5 := Tryz.zeroValue5
  t9 := Tryz.underlying9
  a9 := Tryz.isAgg9
  z9 := Tryz.sizeOf9
  v9 := Tryz.zeroValue9
  t46 := Tryz.underlying187
  a46 := Tryz.isAgg187
  z46 := Tryz.sizeOf187
  v46 := Tryz.zeroValue187
  t51 := Tryz.underlying349
  a51 := Tryz.isAgg349
  z51 := Tryz.sizeOf349
  v51 := Tryz.zeroValue349
  t59 := Tryz.underlying415
  a59 := Tryz.isAgg415
  z59 := Tryz.sizeOf415
  v59 := Tryz.zeroValue415
  t146 := Tryz.underlying489
  a146 := Tryz.isAgg489
  z146 := Tryz.sizeOf489
  v146 := Tryz.zeroValue489
  g1 := by kernel_rfl

theorem grown_drewN (w : World) (n : Nat) : w.grownBy (w.drewN n) none := ⟨rfl, rfl, rfl, Nat.le_refl _, fun _ _ _ => rfl⟩

theorem cut_call {w : World} {s sep : ByteArray} {m : Int} (hs : s.size ≤ 1048576) (hp : 1 ≤ sep.size) (hm : w.cell? ⟨3, 0, none⟩ = some (.int .i64 m)) :
    Calls Tryz.prog 292 #[.string s, .string sep] w fun e w' => (∃ (x y : ByteArray) (b : Bool), e = .returned (.tuple #[.string x, .string y, .bool b]) ∧ x.size ≤ s.size ∧ y.size ≤ s.size ∧ (1 ≤ s.size → y.size + 1 ≤ s.size)) ∧ w.grownBy w' none := by
  refine Calls.mono (show Calls Tryz.prog 292 _ _ _ from Any.strings_Cut lays145 s sep m w (by omega) hm) ?_
  rintro e w' ⟨rfl, n, rfl⟩
  refine ⟨⟨_, _, _, rfl, ?_, ?_, ?_⟩, grown_drewN w n⟩
  · show (Lib.cut s.data.toList sep.data.toList).1.toArray.size ≤ s.data.size
    rw [List.size_toArray]
    unfold Lib.cut
    split
    · rw [List.length_take, Array.length_toList]; omega
    · rw [Array.length_toList]; exact Nat.le_refl _
  · show (Lib.cut s.data.toList sep.data.toList).2.1.toArray.size ≤ s.data.size
    rw [List.size_toArray]
    unfold Lib.cut
    split
    · rw [List.length_drop, Array.length_toList]; omega
    · exact Nat.zero_le _
  · intro h1
    have hp' : 1 ≤ sep.data.size := hp
    have h1' : 1 ≤ s.data.size := h1
    show (Lib.cut s.data.toList sep.data.toList).2.1.toArray.size + 1 ≤ s.data.size
    rw [List.size_toArray]
    unfold Lib.cut
    split
    · rw [List.length_drop, Array.length_toList, Array.length_toList]; omega
    · show 0 + 1 ≤ _
      omega

theorem tnumber_any {w : World} {s : ByteArray} (hs : s.size ≤ 1099511627776) : Calls Tryz.prog 293 #[.string s] w fun e w' => (∃ (z : ByteArray) (b : Bool), e = .returned (.tuple #[.string z, .bool b]) ∧ z.size ≤ s.size) ∧ w.grownBy w' none := by
  obtain ⟨q, hq⟩ : ∃ q, (s.toList == [45]) = q := ⟨_, rfl⟩
  obtain ⟨q2, hq2⟩ : ∃ q2, s.toList.isEmpty = q2 := ⟨_, rfl⟩
  have hid := isdigits_any (w := w) hs
  go_enter Tryz.func293, Tryz.ntmps293
  cases q
  · cases q2
    · go_wp2_with fail
      refine hid.mono ?_
      rintro e w2 ⟨⟨b, rfl, _⟩, g2⟩
      go_wp2
      exact bodyPost_ret (v := .tuple #[.string s, .bool b]) (by simp [results, Tryz.results293, go_sem]) rfl ⟨⟨s, b, rfl, Nat.le_refl _⟩, g2⟩
    · go_wp2_with fail
      exact bodyPost_ret (v := .tuple #[.string s, .bool false]) (by simp [results, Tryz.results293, go_sem]) rfl ⟨⟨s, _, rfl, Nat.le_refl _⟩, grown_refl w⟩
  · go_wp2_with fail
    exact bodyPost_ret (v := .tuple #[.string ⟨#[]⟩, .bool true]) (by simp [results, Tryz.results293, go_sem]) rfl ⟨⟨_, _, rfl, by show 0 ≤ _; omega⟩, grown_refl w⟩

end Go.Sx
