/- Part TxA of a proof: helper lemmas; no conditions. -/
import Derived.Test.YtadhlkgjiccdpaaGreatDoorHnB
import Derived.Test.YtadhlkgjiccdpaaGreatDoorLT
import Derived.Shelf.Strings.BuilderK
import Derived.Shelf.Strconv.Itoa3
import Derived.Lib.ItoaLen
import Derived.Test.YtadhlkgjiccdpaaGreatDoorTgO
import Derived.Laws.EntriesVeiled

set_option linter.unusedSimpArgs false
set_option linter.unusedVariables false

namespace Go.Sx
open Go Go.Proofs Go.Shelf Go.RowKit Go.Sort

def lays166_ren : Go.Shelf.Ren := ⟨fun | 166 => 135 | 240 => 171 | 276 => 183 | n => n, fun | 70 => 192 | 9 => 9 | 3 => 3 | 75 => 197 | 0 => 0 | 72 => 194 | 37 => 27 | 4 => 4 | 164 => 260 | 80 => 152 | 5 => 5 | n => n, fun | n => n⟩
theorem lays166 : Go.Proofs.Lays.n166 Tryz.prog lays166_ren where
  mixed := by kernel_rfl
  f166 := Tryz.func135.trans (congrArg some (by kernel_rfl))
  f240 := Tryz.func171.trans (congrArg some (by kernel_rfl))
  f276 := Tryz.func183.trans (congrArg some (by kernel_rfl))
  t0 := Tryz.underlying0
  a0 := Tryz.isAgg0
  z0 := Tryz.sizeOf0
  v0 := Tryz.zeroValue0
  t3 := Tryz.underlying3
  a3 := Tryz.isAgg3
  z3 := Tryz.sizeOf3
  v3 := Tryz.zeroValue3
  t4 := Tryz.underlying4
  a4 := Tryz.isAgg4
  z4 := Tryz.sizeOf4
  v4 := Tryz.zeroValue4
  t9 := Tryz.underlying9
  a9 := Tryz.isAgg9
  z9 := Tryz.sizeOf9
  v9 := Tryz.zeroValue9
  t20 := Tryz.underlying20
  a20 := Tryz.isAgg20
  z20 := Tryz.sizeOf20
  v20 := Tryz.zeroValue20
  t37 := Tryz.underlying27
  a37 := Tryz.isAgg27
  z37 := Tryz.sizeOf27
  v37 := Tryz.zeroValue27
  t70 := Tryz.underlying192
  a70 := Tryz.isAgg192
  z70 := Tryz.sizeOf192
  v70 := Tryz.zeroValue192
  t72 := Tryz.underlying194
  a72 := Tryz.isAgg194
  z72 := Tryz.sizeOf194
  v72 := Tryz.zeroValue194
  t75 := Tryz.underlying197
  a75 := Tryz.isAgg197
  z75 := Tryz.sizeOf197
  v75 := Tryz.zeroValue197
  t164 := Tryz.underlying260
  a164 := Tryz.isAgg260
  z164 := Tryz.sizeOf260
  v164 := Tryz.zeroValue260

def lays171_ren : Go.Shelf.Ren := ⟨fun | 171 => 136 | 243 => 172 | 246 => 184 | 283 => 198 | 284 => 199 | 285 => 200 | 286 => 201 | 129 => 216 | 317 => 215 | 318 => 217 | 319 => 218 | 320 => 219 | 337 => 227 | 338 => 228 | n => n, fun | 3 => 3 | 9 => 9 | 2 => 2 | 4 => 4 | 171 => 274 | 0 => 0 | 53 => 275 | 37 => 27 | 5 => 5 | 173 => 278 | 212 => 293 | 51 => 24 | 20 => 20 | 213 => 294 | 46 => 191 | 232 => 314 | 233 => 315 | n => n, fun | 17 => 0 | 18 => 6 | 19 => 7 | n => n⟩
theorem lays171 : Go.Proofs.LaysM.n171 Tryz.prog lays171_ren where
  mixed := by kernel_rfl
  f129 := Tryz.func216.trans (congrArg some (by kernel_rfl))
  f171 := Tryz.func136.trans (congrArg some (by kernel_rfl))
  f243 := Tryz.func172.trans (congrArg some (by kernel_rfl))
  f246 := Tryz.func184.trans (congrArg some (by kernel_rfl))
  f283 := Tryz.func198.trans (congrArg some (by kernel_rfl))
  f284 := Tryz.func199.trans (congrArg some (by kernel_rfl))
  f285 := Tryz.func200.trans (congrArg some (by kernel_rfl))
  f286 := Tryz.func201.trans (congrArg some (by kernel_rfl))
  f317 := Tryz.func215.trans (congrArg some (by kernel_rfl))
  f318 := Tryz.func217.trans (congrArg some (by kernel_rfl))
  f319 := Tryz.func218.trans (congrArg some (by kernel_rfl))
  f320 := Tryz.func219.trans (congrArg some (by kernel_rfl))
  f337 := Tryz.func227.trans (congrArg some (by kernel_rfl))
  f338 := Tryz.func228.trans (congrArg some (by kernel_rfl))
  t0 := Tryz.underlying0
  a0 := Tryz.isAgg0
  z0 := Tryz.sizeOf0
  v0 := Tryz.zeroValue0
  t2 := Tryz.underlying2
  a2 := Tryz.isAgg2
  z2 := Tryz.sizeOf2
  v2 := Tryz.zeroValue2
  t3 := Tryz.underlying3
  a3 := Tryz.isAgg3
  z3 := Tryz.sizeOf3
  v3 := Tryz.zeroValue3
  t4 := Tryz.underlying4
  a4 := Tryz.isAgg4
  z4 := Tryz.sizeOf4
  v4 := Tryz.zeroValue4
  t5 := Tryz.underlying5
  a5 := Tryz.isAgg5
  z5 := Tryz.sizeOf5
  v5 := Tryz.zeroValue5
  t9 := Tryz.underlying9
  a9 := Tryz.isAgg9
  z9 := Tryz.sizeOf9
  v9 := Tryz.zeroValue9
  t20 := Tryz.underlying20
  a20 := Tryz.isAgg20
  z20 := Tryz.sizeOf20
  v20 := Tryz.zeroValue20
  t37 := Tryz.underlying27
  a37 := Tryz.isAgg27
  z37 := Tryz.sizeOf27
  v37 := Tryz.zeroValue27
  t46 := Tryz.underlying191
  a46 := Tryz.isAgg191
  z46 := Tryz.sizeOf191
  v46 := Tryz.zeroValue191
  t51 := Tryz.underlying24
  a51 := Tryz.isAgg24
  z51 := Tryz.sizeOf24
  v51 := Tryz.zeroValue24
  t53 := Tryz.underlying275
  a53 := Tryz.isAgg275
  z53 := Tryz.sizeOf275
  v53 := Tryz.zeroValue275
  t171 := Tryz.underlying274
  a171 := Tryz.isAgg274
  z171 := Tryz.sizeOf274
  v171 := Tryz.zeroValue274
  t173 := Tryz.underlying278
  a173 := Tryz.isAgg278
  z173 := Tryz.sizeOf278
  v173 := Tryz.zeroValue278
  t212 := Tryz.underlying293
  a212 := Tryz.isAgg293
  z212 := Tryz.sizeOf293
  v212 := Tryz.zeroValue293
  t213 := Tryz.underlying294
  a213 := Tryz.isAgg294
  z213 := Tryz.sizeOf294
  t232 := Tryz.underlying314
  a232 := Tryz.isAgg314
  z232 := Tryz.sizeOf314
  v232 := Tryz.zeroValue314
  t233 := Tryz.underlying315
  a233 := Tryz.isAgg315
  z233 := Tryz.sizeOf315
  v233 := Tryz.zeroValue315
  g17 := by kernel_rfl
  g18 := by kernel_rfl
  g19 := by kernel_rfl
  i0 := by kernel_rfl
  i2 := by kernel_rfl
  i3 := by kernel_rfl
  i4 := by kernel_rfl
  i5 := by kernel_rfl
  i9 := by kernel_rfl
  i20 := by kernel_rfl
  i37 := by kernel_rfl
  i46 := by kernel_rfl
  i51 := by kernel_rfl
  i53 := by kernel_rfl
  i171 := by kernel_rfl
  i173 := by kernel_rfl
  i212 := by kernel_rfl
  i232 := by kernel_rfl
  i233 := by kernel_rfl
  m17 := by kernel_rfl
  m18 := by kernel_rfl
  m19 := by kernel_rfl

theorem extra166 : Go.Proofs.Builder.Extra Tryz.prog lays166_ren := { sizeBuilder := by kernel_rfl, liesBuilder := by kernel_rfl, t5 := Tryz.underlying5, a5 := Tryz.isAgg5, z5 := Tryz.sizeOf5, v5 := Tryz.zeroValue5, infoByte := by kernel_rfl, cellsByte := by kernel_rfl, sizeByte := by kernel_rfl, neB5 := by decide }

def Beside (b : Nat) (w w' : World) : Prop := Lib.OthersKept 5 (some b) w w'

theorem Beside.refl (b : Nat) (w : World) : Beside b w w := Lib.OthersKept.refl _ _ _
theorem Beside.trans {b : Nat} {w w' w'' : World} (h : Beside b w w') (k : Beside b w' w'') : Beside b w w'' := Lib.OthersKept.trans h k
theorem Beside.grown {b : Nat} {w w' : World} (h : w.grownBy w' none) : Beside b w w' := fun k o hk _ _ => (h.block k (by
  rcases Nat.lt_or_ge k w.heap.size with h' | h'
  · exact h'
  · rw [Array.getElem?_eq_none h'] at hk; cases hk) (by simp)).trans hk
theorem Beside.cells {b k : Nat} {w w' : World} {cs : Array Value} {E : TypeId} {fz : Nat × Nat} (h : Beside b w w') (hk : w.heap[k]? = some (.cells cs E fz)) (hb : k ≠ b) (hE : E ≠ 5) : w'.heap[k]? = some (.cells cs E fz) :=
  h k _ hk (fun e => hb (Option.some.inj e)) (fun c fz' e => hE (by cases e; rfl))

theorem bldf_byte {b n : Nat} {w0 w : World} {c : Int} (h : BldF b n w0 w) (hn : n ≤ 1099511627776) (h0 : 0 ≤ c) (h1 : c ≤ 255) :
    Calls Tryz.prog 137 #[.pointer (some ⟨b, 0, none⟩), .int .u8 c] w fun e w' => e = .returned .nilIface ∧ BldF b (n + 1) w0 w' ∧ Beside b w w' := by
  obtain ⟨l, hl, hb, hg⟩ := h
  have hcon := Any.Builder_WriteByte_k lays167 extra167 w0.heap.size b (Lib.byteCells l) c w hb (by rw [Lib.byteCells_length]; omega) hg.size
  refine Calls.mono (show Calls Tryz.prog 137 _ _ _ from hcon) ?_
  rintro e w' ⟨rfl, h2, h3, h4⟩
  refine ⟨rfl, ⟨l ++ [UInt8.ofNat c.toNat], by simp [hl], .inr ?_, grown_below hg h3⟩, h4⟩
  have e1 : Lib.byteCells (l ++ [UInt8.ofNat c.toNat]) = Lib.byteCells l ++ [.int .u8 c] := by
    simp [Lib.byteCells]
    omega
  rw [e1]
  exact h2

theorem strCells_bytes (s : ByteArray) : Lib.strCells s = Lib.byteCells s.data.toList := by
  simp [Lib.strCells, Lib.byteCells]

theorem bldf_str {b n : Nat} {w0 w : World} {s : ByteArray} (h : BldF b n w0 w) (hn : n + s.size ≤ 1099511627776) :
    Calls Tryz.prog 135 #[.pointer (some ⟨b, 0, none⟩), .string s] w fun e w' => e = .returned (.tuple #[.int .i64 s.size, .nilIface]) ∧ BldF b (n + s.size) w0 w' ∧ Beside b w w' := by
  obtain ⟨l, hl, hb, hg⟩ := h
  have hcon := Any.Builder_WriteString_k lays166 extra166 w0.heap.size b (Lib.byteCells l) s w hb (by rw [Lib.byteCells_length]; omega) hg.size
  refine Calls.mono (show Calls Tryz.prog 135 _ _ _ from hcon) ?_
  rintro e w' ⟨rfl, h2, h3, h4⟩
  refine ⟨rfl, ⟨l ++ s.data.toList, by rw [List.length_append, hl, Array.length_toList]; rfl, .inr ?_, grown_below hg h3⟩, h4⟩
  have e1 : Lib.byteCells (l ++ s.data.toList) = Lib.byteCells l ++ Lib.strCells s := by
    rw [strCells_bytes]; simp [Lib.byteCells]
  rw [e1]
  exact h2

theorem itoa_call {χ : Chi} {w : World} {z : Int} (hinv : Inv Tryz.prog χ w) (hgl : GlOK χ [(0, tabC)]) (h0 : -9223372036854775808 ≤ z) (h1 : z ≤ 9223372036854775807) :
    Calls Tryz.prog 136 #[.int .i64 z] w fun e w' => (∃ s : ByteArray, s = ⟨(Lib.itoa z).toArray⟩ ∧ e = .returned (.string s) ∧ s.size ≤ 21) ∧ w.grownBy w' none := by
  have htab := tab_is hinv hgl (show Tryz.prog.globalNamed "internal/strconv.uint64pow10" = some 0 by kernel_rfl)
  have hcon := Any.strconv_Itoa lays171 z h0 h1 w htab
  refine Calls.mono (show Calls Tryz.prog 136 _ _ _ from hcon) ?_
  rintro e w' ⟨rfl, k, os, rfl⟩
  have hlen := Lib.itoa_length_le z h0 h1
  refine ⟨⟨_, rfl, rfl, by show (Lib.itoa z).toArray.size ≤ 21; rw [List.size_toArray]; omega⟩, rfl, rfl, rfl, ?_, fun i hi _ => ?_⟩
  · show w.heap.size ≤ (w.heap ++ os).size
    simp
  · show (w.heap ++ os)[i]? = w.heap[i]?
    exact Array.getElem?_append_left hi

end Go.Sx

namespace Go.Sx
open Go Go.Proofs

theorem BldF.lt {b n : Nat} {w0 w : World} (h : BldF b n w0 w) : b < w.heap.size := by
  obtain ⟨l, h1, h2, h3⟩ := h
  rcases h2 with h | h
  · exact lt_of_blk h.2.choose_spec.1
  · exact lt_of_blk h.2.choose_spec.1

theorem BldF.ge {b n : Nat} {w0 w : World} (h : BldF b n w0 w) : w0.heap.size ≤ b := by
  obtain ⟨l, h1, h2, h3⟩ := h
  rcases h2 with h | h
  · exact h.1
  · exact h.1

theorem BldF.old {b n : Nat} {w0 w : World} (h : BldF b n w0 w) : w0.grownBy w none := by
  obtain ⟨l, h1, h2, h3⟩ := h
  exact h3

theorem text1_cal : callable Tryz.prog 134 = true := by kernel_rfl
theorem itoa_cal : callable Tryz.prog 136 = true := by kernel_rfl
theorem bws_cal : callable Tryz.prog 135 = true := by kernel_rfl

theorem step_call1 {P : Program} {ops : Array Oper} {o : Oper} {a : Act} {w : World} {K : Act → World → Prop} {Q : Exit → Act → World → Prop} {E : Prop} (hg : o.guard = none) (f : FuncId) (x : Operand) (ts : Array TypeId)
    (hop : o.op = .call { callee := .value (.func f), args := #[x], argTypes := ts }) (hcal : callable P f = true) {vx : Value} (hx : a.eval x = vx)
    {R : Ending → World → Prop} (hc : Calls P f #[vx] w R) (hR : ∀ e w', R e w' → (∃ v, e = .returned v ∧ K (a.put o.dst v) w') ∨ (∃ c, e = .panicked c ∧ Q (.panic c) a w')) :
    if Region.wanted o (yielded ops a.tmps) = true then Oper.wp P o a w K Q else E := by
  obtain ⟨fn, hh, hb, hname⟩ := callable_ok hcal
  obtain ⟨body, hb⟩ := Option.isSome_iff_exists.1 hb
  refine step_call hg f #[x] ts hop hh hb hname ?_ hR
  rw [show (#[x] : Array Operand).map a.eval = #[vx] by simp [hx]]
  exact hc

def digA : ByteArray := { data := #[48, 49, 50, 51, 52, 53, 54, 55, 56, 57, 97, 98, 99, 100, 101, 102] }
theorem digA_size : digA.size = 16 := rfl

theorem TreeP.pos {χ : Chi} {w : World} : ∀ {d n s : Nat} {t : TN}, TreeP χ w d n s t → 1 ≤ n
  | 0, _, _, _, h => h.elim
  | _ + 1, _, _, _, h => by
    obtain ⟨_, ns, ss, ps, h1, _⟩ := h
    omega

set_option maxRecDepth 100000 in
set_option maxHeartbeats 3200000 in
theorem text1_any {χ : Chi} {w0 : World} {b W : Nat} (hi0 : Inv Tryz.prog χ w0) (hgl : GlOK χ [(0, tabC)]) (hWb : W ≠ b) : ∀ d {n s : Nat} {t : TN}, TreeP χ w0 d n s t → ∀ {w : World} {m : Nat}, BldF b m w0 w →
    w.heap[W]? = some (.cells #[.func (.func 134) #[] #[.pointer (some ⟨b, 0, none⟩), .pointer (some ⟨W, 0, none⟩)]] 195 (0, 0)) → m + 2 * s + 60 * n ≤ 1099511627776 →
    Calls Tryz.prog 134 #[t.agg, .pointer (some ⟨b, 0, none⟩), .pointer (some ⟨W, 0, none⟩)] w fun e w' => e = .returned (.tuple #[]) ∧ (∃ m', m' + 1 ≤ m + 2 * s + 60 * n ∧ BldF b m' w0 w') ∧ Beside b w w' := by
  intro d
  induction d with
  | zero => intro n s t h; exact h.elim
  | succ d ih =>
    intro n s t ht w m hB hW hsum
    obtain ⟨⟨hty, hvc⟩, ns, ss, ps, hns, hss, hps⟩ := ht
    have hc0 := hty.c0
    have ht0 := hty.t0
    have hg1 := grown_alloc w (.cells #[.int .u8 t.vc, .int .u32 t.vt, .bool t.vb, .slice t.a3 t.l3 t.c3, .slice t.a4 t.l4 t.c4] 61)
    have hE : (w.alloc (.cells #[.int .u8 t.vc, .int .u32 t.vt, .bool t.vb, .slice t.a3 t.l3 t.c3, .slice t.a4 t.l4 t.c4] 61)).heap[w.heap.size]? = some (.cells #[.int .u8 t.vc, .int .u32 t.vt, .bool t.vb, .slice t.a3 t.l3 t.c3, .slice t.a4 t.l4 t.c4] 61 (0, 0)) := by rw [alloc_get, if_pos rfl]
    have hbE : w.heap.size ≠ b := by have := hB.lt; omega
    have hWlt := lt_of_blk hW
    unfold TN.agg
    obtain ⟨vc, vt, vb, a3, l3, c3, a4, l4, c4⟩ := t
    dsimp only at *
    have hB1 := (hB.kept hg1).kept (grown_drew0 _)
    have hW1 := (hg1.block _ hWlt (by simp)).trans hW
    go_enter Tryz.func134, Tryz.ntmps134
    go_upto_region 1 with fail
    generalize w.alloc (.cells #[.int .u8 vc, .int .u32 vt, .bool vb, .slice a3 l3 c3, .slice a4 l4 c4] 61) = w1 at *
    go_cut [] (fun wx => (∃ m', m' ≤ m + 25 ∧ BldF b m' w0 wx) ∧ Beside b w1 wx)
    case first =>
      go_wp2_with fail
      have k0 : w1.drew.cell? ⟨w.heap.size, 0, none⟩ = some (.int .u8 vc) := by rw [cell?_blk (show w1.drew.heap[w.heap.size]? = _ from hE)]; rfl
      have k1 : w1.drew.cell? ⟨w.heap.size, 1, none⟩ = some (.int .u32 vt) := by rw [cell?_blk (show w1.drew.heap[w.heap.size]? = _ from hE)]; rfl
      have hit := itoa_call (z := vt) (w := w1.drew) (hi0.same (w' := w1.drew) (fun k hk => (hB1.old.block k (hi0.lt hk) (by simp)))) hgl (by omega) (by omega)
      have hw8 : IntKind.u8.wrap (vc + 1) = vc + 1 := wrap_id (by show (0 : Int) ≤ _; omega) (by show _ ≤ (255 : Int); omega)
      have h84 : vc + 1 ≤ 4 := by omega
      have h85 : vc ≤ vc + 1 := by omega
      have hw64 : IntKind.i64.wrap vt = vt := wrap_id (by show (-9223372036854775808 : Int) ≤ _; omega) (by show _ ≤ (9223372036854775807 : Int); omega)
      go_region_law (first
        | (refine step_call1 (vx := .int .i64 vt) rfl 136 (.tmp 16) #[3] rfl itoa_cal (by go_simp; try exact hw64) hit (fun e w3 h => ?_)
           obtain ⟨⟨z, -, rfl, hz⟩, hg3⟩ := h
           have hsz : ¬ (9223372036854775807 < (vc + 1).toNat - vc.toNat + z.size) := by omega
           have hB3 := hB1.kept hg3
           have k0' := cell_grown k0 (show w.heap.size < w1.drew.heap.size from lt_of_blk hE) hg3
           have k1' := cell_grown k1 (show w.heap.size < w1.drew.heap.size from lt_of_blk hE) hg3
           have hze : (({ data := #[117, 97, 99, 112] } : ByteArray).extract vc.toNat (vc + 1).toNat ++ z).size ≤ 25 := by
             rw [ByteArray.size_append, ByteArray.size_extract]
             have : min (vc + 1).toNat (ByteArray.size { data := #[117, 97, 99, 112] }) ≤ 4 := Nat.min_le_right _ _
             omega
           have hws := bldf_str (s := ({ data := #[117, 97, 99, 112] } : ByteArray).extract vc.toNat (vc + 1).toNat ++ z) hB3 (by omega)
           refine .inl ⟨_, rfl, ?_⟩)
        | (refine step_call2 (vx := .pointer (some ⟨b, 0, none⟩)) rfl 135 (.tmp 1) (.tmp 18) #[194, 9] rfl bws_cal (by go_simp) (by go_simp) hws (fun e w4 h => ?_)
           obtain ⟨rfl, hB4, hK4⟩ := h
           refine .inl ⟨_, rfl, ?_⟩))
      all_goals
        go_wp2_with fail
        go_meet
        exact ⟨⟨_, by omega, hB4⟩, (Beside.grown (grown_trans (grown_drew0 _) hg3)).trans hK4⟩
    case rest =>
      obtain ⟨⟨m1, hm1, hB2⟩, hK2⟩ := hcut
      have hE2 := hK2.cells hE hbE (by decide)
      have hW2 := hK2.cells hW1 hWb (by decide)
      have hE1 := hE
      clear hB hB1 hE hW
      have hn1 : 1 ≤ n := by omega
      have k2 : wc.cell? ⟨w.heap.size, 2, none⟩ = some (.bool vb) := by rw [cell?_blk hE2]; rfl
      cases vb with
      | false =>
        obtain ⟨u, hu⟩ := nums_read hi0 hty.r3 (Nat.le_refl _)
        have hl3 := hty.l3.2.1
        unfold LB at hl3
        have hby := bldf_byte (c := 61) hB2 (by omega) (by omega) (by omega)
        clear ih hps hty
        go_wp2_with fail
        refine hby.mono ?_
        clear hby
        rintro e w3 ⟨rfl, hB3, hK3⟩
        have hE3 := hK3.cells hE2 hbE (by decide)
        have k3 : w3.cell? ⟨w.heap.size, 3, none⟩ = some (.slice a3 l3 c3) := by rw [cell?_blk hE3]; rfl
        have hK3' := hK2.trans hK3
        go_wp2_with fail
        go_loopg [27] l3 (fun k q wr => ∃ j m' : Nat, j + k = l3 ∧ q = .int .i64 j ∧ m' ≤ m1 + 1 + 2 * j ∧ BldF b m' w0 wr ∧ Beside b w1 wr)
        case atStart => exact ⟨0, m1 + 1, by simp, rfl, by omega, hB3, hK3'⟩
        case round =>
          clear hB2 hB3 hK2 hK3 hK3' hE2 hE3 hW2 k3
          obtain ⟨j, m2, hjk, rfl, hm2, hB4, hK4⟩ := hrel
          cases gk with
          | zero =>
            have hil : decide (j < l3) = false := by simp; omega
            obtain rfl : j = l3 := by omega
            go_wp2
            exact bodyPost_ret (v := .tuple #[]) (by simp [results, Tryz.results134, go_sem]) rfl ⟨rfl, ⟨m2, by omega, hB4⟩, (Beside.grown hg1).trans hK4⟩
          | succ k =>
            have hil : decide (j < l3) = true := by simp; omega
            have hi00 : (0 : Int) ≤ (j : Int) := by omega
            have hi11 : (j : Int) < (l3 : Int) := by omega
            have hi40 : (j : Int) ≤ 1099511627776 := by omega
            obtain ⟨bb, oo, hao, hbl, hx, hx0, hx1⟩ := (hu.grown hB4.old) j (by omega)
            subst hao
            have hs0 : 0 ≤ u j / 16 := by omega
            have hs1 : u j / 16 ≤ 255 := by omega
            have hs2 : IntKind.u8.wrap (u j / 16 + 1) = u j / 16 + 1 := wrap_id (by show (0 : Int) ≤ _; omega) (by show _ ≤ (255 : Int); omega)
            have hs3 : u j / 16 + 1 ≤ 16 := by omega
            have hs4 : u j / 16 ≤ u j / 16 + 1 := by omega
            have ht2 : IntKind.u8.wrap (u j % 16 + 1) = u j % 16 + 1 := wrap_id (by show (0 : Int) ≤ _; omega) (by show _ ≤ (255 : Int); omega)
            have ht3 : u j % 16 + 1 ≤ 16 := by omega
            have ht4 : u j % 16 ≤ u j % 16 + 1 := by omega
            have ht5 : 0 ≤ u j % 16 := by omega
            have ht6 : u j % 16 ≤ 255 := by omega
            have hq1 : IntKind.u8.wrap ((u j).tdiv 16) = u j / 16 := by
              rw [Int.tdiv_eq_ediv_of_nonneg hx0]
              exact wrap_id (by show (0 : Int) ≤ _; omega) (by show _ ≤ (255 : Int); omega)
            have hr0 : (u j).tmod 16 = u j % 16 := Int.tmod_eq_emod_of_nonneg hx0
            have hr1 : IntKind.u8.wrap (u j % 16) = u j % 16 := wrap_id (by show (0 : Int) ≤ _; omega) (by show _ ≤ (255 : Int); omega)
            have hBd := hB4.kept (grown_drew0 _)
            have hsz : ¬ (9223372036854775807 < (u j / 16 + 1).toNat - (u j / 16).toNat + ((u j % 16 + 1).toNat - (u j % 16).toNat)) := by omega
            have hz2 : (digA.extract (u j / 16).toNat (u j / 16 + 1).toNat ++ digA.extract (u j % 16).toNat (u j % 16 + 1).toNat).size = 2 := by
              rw [ByteArray.size_append, ByteArray.size_extract, ByteArray.size_extract, digA_size]
              omega
            have hws := bldf_str (s := digA.extract (u j / 16).toNat (u j / 16 + 1).toNat ++ digA.extract (u j % 16).toNat (u j % 16 + 1).toNat) hBd (by rw [hz2]; omega)
            rw [hz2] at hws
            unfold digA at hws
            clear hz2
            go_wp2_with fail
            go_region_law (refine step_call2 (vx := .pointer (some ⟨b, 0, none⟩)) rfl 135 (.tmp 1) (.tmp 43) #[194, 9] rfl bws_cal (by go_simp) (by go_simp) hws (fun e w4 h => ?_)
                           obtain ⟨rfl, hB5, hK5⟩ := h
                           refine .inl ⟨_, rfl, ?_⟩)
            all_goals
              go_wp2_with fail
              go_roundg k <;> first | omega | exact ⟨j + 1, m2 + 2, by omega, by go_num, by omega, hB5, (hK4.trans (Beside.grown (grown_drew0 _))).trans hK5⟩
      | true =>
        have hl4 := hty.l4.2.1
        unfold LB at hl4
        have hby := bldf_byte (c := 40) hB2 (by omega) (by omega) (by omega)
        go_wp2_with fail
        refine hby.mono ?_
        clear hby
        rintro e w3 ⟨rfl, hB3, hK3⟩
        have hE3 := hK3.cells hE2 hbE (by decide)
        have hW3 := hK3.cells hW2 hWb (by decide)
        have k4 : w3.cell? ⟨w.heap.size, 4, none⟩ = some (.slice a4 l4 c4) := by rw [cell?_blk hE3]; rfl
        have hK3' := hK2.trans hK3
        obtain ⟨fn, hh, hbody, hname⟩ := callable_ok text1_cal
        have hcf := run_callFn hh hbody hname
        clear hB2 hK2 hE2 hW2 hK3
        go_wp2_with fail
        go_loopg [50] l4 (fun k q wr => ∃ i m' : Nat, i + k = l4 ∧ q = .int .i64 i ∧ m' ≤ m1 + 1 + 2 * sumN ss i + 60 * sumN ns i ∧ BldF b m' w0 wr ∧ Beside b w1 wr)
        case atStart => exact ⟨0, m1 + 1, by simp, rfl, by simp [sumN], hB3, hK3'⟩
        case round =>
          clear hB3 hK3' hE3 hW3 k4
          obtain ⟨i, m2, hik, rfl, hm2, hB4, hK4⟩ := hrel
          cases gk with
          | zero =>
            have hil : decide (i < l4) = false := by simp; omega
            obtain rfl : i = l4 := by omega
            have hby := bldf_byte (c := 41) hB4 (by omega) (by omega) (by omega)
            go_wp2_with fail
            refine hby.mono ?_
            rintro e w5 ⟨rfl, hB5, hK5⟩
            go_wp2
            exact bodyPost_end (v := .tuple #[]) (by simp [results, Tryz.results134, go_sem]) rfl ⟨rfl, ⟨m2 + 1, by omega, hB5⟩, (Beside.grown hg1).trans (hK4.trans hK5)⟩
          | succ k =>
            have hlt : i < l4 := by omega
            have hil : decide (i < l4) = true := by simp; omega
            have hi00 : (0 : Int) ≤ (i : Int) := by omega
            have hi11 : (i : Int) < (l4 : Int) := by omega
            have hi40 : (i : Int) ≤ 1099511627776 := by omega
            have hp := (hps i hlt).1.same (χ' := χ) (w' := wr) (fun _ h => h) (fun k hk => hB4.old.block k (hi0.lt hk) (by simp))
            obtain ⟨bp, op, e4, hA, q0, q1, q2, q3, q4⟩ := hp.cells
            have hbw : bp < wr.heap.size := Nat.lt_of_lt_of_le (hi0.lt hA) hB4.old.size
            have hsn : sumN ns (i + 1) ≤ sumN ns l4 := sumN_mono ns (by omega)
            have hss2 : sumN ss (i + 1) ≤ sumN ss l4 := sumN_mono ss (by omega)
            simp only [sumN] at hsn hss2
            have hWr := hK4.cells hW1 hWb (by decide)
            have hEr := hK4.cells hE1 hbE (by decide)
            have hgx := grown_alloc wr (.cells #[.int .u8 (ps i).vc, .int .u32 (ps i).vt, .bool (ps i).vb, .slice (ps i).a3 (ps i).l3 (ps i).c3, .slice (ps i).a4 (ps i).l4 (ps i).c4] 61)
            have hX : (wr.alloc (.cells #[.int .u8 (ps i).vc, .int .u32 (ps i).vt, .bool (ps i).vb, .slice (ps i).a3 (ps i).l3 (ps i).c3, .slice (ps i).a4 (ps i).l4 (ps i).c4] 61)).heap[wr.heap.size]? = some (.cells #[.int .u8 (ps i).vc, .int .u32 (ps i).vt, .bool (ps i).vb, .slice (ps i).a3 (ps i).l3 (ps i).c3, .slice (ps i).a4 (ps i).l4 (ps i).c4] 61 (0, 0)) := by rw [alloc_get, if_pos rfl]
            have hbX : wr.heap.size ≠ b := by have := hB4.lt; omega
            have hWx := (hgx.block _ (lt_of_blk hWr) (by simp)).trans hWr
            have hBx := hB4.kept hgx
            have hKx := hK4.trans (Beside.grown hgx)
            have hrec := (hps i hlt).2
            clear hps hp
            by_cases h0 : i = 0
            · have hgt : decide ((0 : Int) < (i : Int)) = false := by simp; omega
              have hgt2 : decide (0 < i) = false := by simp; omega
              clear h0
              have hih := ih hrec hBx hWx (by omega)
              have y0 : (wr.alloc (.cells #[.int .u8 (ps i).vc, .int .u32 (ps i).vt, .bool (ps i).vb, .slice (ps i).a3 (ps i).l3 (ps i).c3, .slice (ps i).a4 (ps i).l4 (ps i).c4] 61)).cell? ⟨W, 0, none⟩ = some (.func (.func 134) #[] #[.pointer (some ⟨b, 0, none⟩), .pointer (some ⟨W, 0, none⟩)]) := by rw [cell?_blk hWx]; rfl
              have y1 : wr.cell? ⟨W, 0, none⟩ = some (.func (.func 134) #[] #[.pointer (some ⟨b, 0, none⟩), .pointer (some ⟨W, 0, none⟩)]) := by rw [cell?_blk hWr]; rfl
              unfold TN.agg at hih
              go_wp2_with fail
              refine hih.mono ?_
              clear hih q0 q1 q2 q3 q4 y0 y1
              rintro e w6 ⟨rfl, ⟨m6, hm6, hB6⟩, hK6⟩
              go_wp2_with fail
              rw [← e4]
              go_roundg k
              case measure => exact Nat.lt_succ_self k
              exact ⟨i + 1, m6, by omega, by go_num, by simp only [sumN]; omega, hB6, hKx.trans hK6⟩
            · have hgt : decide ((0 : Int) < (i : Int)) = true := by simp; omega
              have hgt2 : decide (0 < i) = true := by simp; omega
              clear h0
              have hby := bldf_byte (c := 32) hBx (by omega) (by omega) (by omega)
              go_wp2_with fail
              refine hby.mono ?_
              rintro e w5 ⟨rfl, hB5, hK5⟩
              have hX5 := hK5.cells hX hbX (by decide)
              have hW5 := hK5.cells hWx hWb (by decide)
              obtain ⟨x0, x1, x2, x3, x4⟩ := TN.cells5 hX5
              have y0 : w5.cell? ⟨W, 0, none⟩ = some (.func (.func 134) #[] #[.pointer (some ⟨b, 0, none⟩), .pointer (some ⟨W, 0, none⟩)]) := by rw [cell?_blk hW5]; rfl
              have hih := ih hrec hB5 hW5 (by omega)
              unfold TN.agg at hih
              clear q0 q1 q2 q3 q4 hby
              go_wp2_with fail
              refine hih.mono ?_
              clear hih y0
              rintro e w6 ⟨rfl, ⟨m6, hm6, hB6⟩, hK6⟩
              go_wp2_with fail
              rw [← e4]
              go_roundg k
              case measure => exact Nat.lt_succ_self k
              exact ⟨i + 1, m6, by omega, by go_num, by simp only [sumN]; omega, hB6, hKx.trans (hK5.trans hK6)⟩

set_option maxRecDepth 100000 in
set_option maxHeartbeats 3200000 in
theorem text_any {χ : Chi} {w : World} {t : TN} (hi : Inv Tryz.prog χ w) (hgl : GlOK χ [(0, tabC)]) (ht : TypedN χ t) (hsm : ∀ n s, TreeP χ w 16 n s t → s ≤ 2000 * n) :
    Calls Tryz.prog 78 #[t.agg] w fun e w' => (∃ s, e = .returned (.string s)) ∧ w.grownBy w' none := by
  have hmf : ∀ (fn : Fn) (first cap : Array Value) (w : World), (Instr.makeFunc fn first cap).run Tryz.prog w = .ok (.func fn first cap) w := fun _ _ _ _ => rfl
  have hg0 := grown_alloc w (.cells #[.int .u8 t.vc, .int .u32 t.vt, .bool t.vb, .slice t.a3 t.l3 t.c3, .slice t.a4 t.l4 t.c4] 61)
  have hE : (w.alloc (.cells #[.int .u8 t.vc, .int .u32 t.vt, .bool t.vb, .slice t.a3 t.l3 t.c3, .slice t.a4 t.l4 t.c4] 61)).heap[w.heap.size]? = some (.cells #[.int .u8 t.vc, .int .u32 t.vt, .bool t.vb, .slice t.a3 t.l3 t.c3, .slice t.a4 t.l4 t.c4] 61 (0, 0)) := by rw [alloc_get, if_pos rfl]
  have hk1 : ∀ b, χ.A b → (w.alloc (.cells #[.int .u8 t.vc, .int .u32 t.vt, .bool t.vb, .slice t.a3 t.l3 t.c3, .slice t.a4 t.l4 t.c4] 61)).heap[b]? = w.heap[b]? := fun b hb => hg0.block b (hi.lt hb) (by simp)
  have hch := check_any (hi.same hk1) ht
  obtain ⟨k0, k1, k2, k3, k4⟩ := TN.cells5 hE
  unfold TN.agg at hch ⊢
  go_enter Tryz.func78, Tryz.ntmps78
  go_wp2_with fail
  refine hch.mono ?_
  clear hch k0 k1 k2 k3 k4
  rintro e w2 ⟨hg2, r, rfl, r0, r1, _, hr⟩
  have hE2 := (hg2.block _ (lt_of_blk hE) (by simp)).trans hE
  have hgw2 := grown_trans hg0 hg2
  have hk2 : ∀ b, χ.A b → w2.heap[b]? = w.heap[b]? := fun b hb => hgw2.block b (hi.lt hb) (by simp)
  by_cases h0 : r = 0
  · subst h0
    obtain ⟨n, s, hn, htp1⟩ := hr rfl
    have htp : TreeP χ w 16 n s t := htp1.same (Ext.refl 0 χ) (fun b hb => (hk1 b hb).symm)
    have hs := hsm n s htp
    have htp2 : TreeP χ w2 16 n s t := htp.same (Ext.refl 0 χ) hk2
    clear hr htp1 hsm htp
    have hgb := grown_alloc w2 (.cells #[.pointer none, .slice none 0 0] 194)
    have hB0 := (bld_fresh w2).f
    have hsb := alloc_size w2 (.cells #[.pointer none, .slice none 0 0] 194)
    generalize hwb : w2.alloc (.cells #[.pointer none, .slice none 0 0] 194) = wb at *
    have hgW := grown_alloc wb (.cells #[.nilFunc] 195)
    have hWz : (wb.alloc (.cells #[.nilFunc] 195)).heap[wb.heap.size]? = some (.cells #[.nilFunc] 195 (0, 0)) := by rw [alloc_get, if_pos rfl]
    obtain ⟨p1, p2⟩ := put1 (v' := .func (.func 134) #[] #[.pointer (some ⟨w2.heap.size, 0, none⟩), .pointer (some ⟨wb.heap.size, 0, none⟩)]) hWz
    have hgx := grown_new hgW (Nat.le_refl _) p2
    have hBx := hB0.kept hgx
    have hih := text1_any (hi.same hk2) hgl (b := w2.heap.size) (W := wb.heap.size) (by omega) 16 htp2 hBx p1 (by omega)
    have z0 : (wb.alloc (.cells #[.nilFunc] 195)).cell? ⟨wb.heap.size, 0, none⟩ = some .nilFunc := by rw [cell?_blk hWz]; rfl
    have z1 : (wb.alloc (.cells #[.nilFunc] 195)).frozen? ⟨wb.heap.size, 0, none⟩ = false := by rw [frozen?_blk hWz]; simp
    have hgz := grown_trans hgb hgx
    have hEx := (hgz.block _ (lt_of_blk hE2) (by simp)).trans hE2
    have y0 : ((wb.alloc (.cells #[.nilFunc] 195)).setCell ⟨wb.heap.size, 0, none⟩ (.func (.func 134) #[] #[.pointer (some ⟨w2.heap.size, 0, none⟩), .pointer (some ⟨wb.heap.size, 0, none⟩)])).cell? ⟨wb.heap.size, 0, none⟩ = some (.func (.func 134) #[] #[.pointer (some ⟨w2.heap.size, 0, none⟩), .pointer (some ⟨wb.heap.size, 0, none⟩)]) := by rw [cell?_blk p1]; rfl
    obtain ⟨k0, k1, k2, k3, k4⟩ := TN.cells5 hEx
    obtain ⟨fn, hh, hbody, hname⟩ := callable_ok text1_cal
    have hcf := run_callFn hh hbody hname
    unfold TN.agg at hih
    rw [hsb] at z0 z1 y0 hih k0 k1 k2 k3 k4
    clear hWz p1 p2 hgx hBx hgz hEx hgW
    generalize hwW : wb.alloc (.cells #[.nilFunc] 195) = wW at *
    go_wp2_with fail
    refine hih.mono ?_
    clear hih k0 k1 k2 k3 k4 y0 z0 z1
    rintro e w5 ⟨rfl, ⟨m5, hm5, hB5⟩, hK5⟩
    go_wp2_with fail
    refine (bld_string_f hB5).mono ?_
    rintro e w6 ⟨⟨z, hz, rfl⟩, hB6⟩
    go_wp2_with fail
    exact bodyPost_ret (v := .string z) (by simp [results, Tryz.results78, go_sem]) rfl ⟨⟨_, rfl⟩, grown_trans hgw2 hB6.old⟩
  · have hrb : (r != 0) = true := by simpa using h0
    go_wp2
    exact bodyPost_ret (v := .string ⟨#[]⟩) (by simp [results, Tryz.results78, go_sem]) rfl ⟨⟨_, rfl⟩, hgw2⟩

end Go.Sx
