/- Part TgT of a proof: helper lemmas; no conditions. -/
import Derived.Test.YtiecagflhhmfnaaDoorTgE
import Derived.Test.YtiecagflhhmfnaaDoorTgD
import Derived.Test.YtiecagflhhmfnaaDoorHnA
import Derived.Test.YtiecagflhhmfnaaDoorHnC
import Derived.Deep.DeepCutAuto
import Derived.Deep.CutBlock
import Derived.Deep.AppendLies
import Derived.Deep.RegionLaw

set_option linter.unusedSimpArgs false
set_option linter.unusedVariables false

/-
  Package transactions: 'Encode'.
-/
namespace Go.Sx
open Go Go.Proofs

noncomputable def cTint : Contract := conOfX Tryd.prog 2000 8 [] [] [] [] ((Tryd.prog.funcs[211]?).getD default)

/-- a block that stands by itself, taken into typed memory -/
theorem Inv.adopt {P : Program} {χ : Chi} {w : World} (h : Inv P χ w) {g : Nat} (hg : ¬ χ.A g) (kk : Nat → Option CT) {cs : Array Value} {E : TypeId} {fz : Nat × Nat} (hblk : w.heap[g]? = some (.cells cs E fz)) (ht : TypedBy P χ χ.A cs kk) :
    Inv P (χ.alloc g false kk) w ∧ Ext 0 χ (χ.alloc g false kk) := by
  have hx : Ext 0 χ (χ.alloc g false kk) := ⟨fun _ _ => rfl, fun _ hb => .inl hb, fun _ hb => .inl hb, fun b hb i => by
    exact if_neg (fun e : b = g => hg (e ▸ hb))⟩
  have htA : TypedBy P (χ.alloc g false kk) (χ.alloc g false kk).A cs kk := ht.ext hx (fun b hb => hx.A b hb) (fun b hb => hb)
  refine ⟨⟨?_, ?_, ?_, ?_⟩, hx⟩
  · intro b hb
    rcases hb with hb | hb
    · exact .inl (h.sub b hb)
    · exact .inr hb.2
  · intro b hb
    rcases hb with hb | hb
    · exact BlockOK.ext hx hx.A (fun _ hb => hb) hb rfl (h.blockA b hb)
    · subst hb
      refine ⟨cs, E, fz, hblk, ?_⟩
      simp only [Chi.alloc, if_pos] at htA ⊢
      exact htA
  · intro b hb
    rcases hb with hb | hb
    · exact BlockOK.ext hx hx.F h.sub (h.sub b hb) rfl (h.blockF b hb)
    · cases hb.1
  · intro b hb
    rcases hb with hb | hb
    · exact h.unfr b hb
    · cases hb.1

/-- new things only: what was there stays, and nothing of it may be written -/
structure ShutG (χ : Chi) (w : World) (χ' : Chi) (w' : World) : Prop where
  A : ∀ b, χ.A b → χ'.A b
  κ : ∀ b, χ.A b → ∀ i, χ'.κ b i = χ.κ b i
  grown : w.grownBy w' none
  inv : Inv Tryd.prog χ' w'
  An : ∀ b, χ'.A b → χ.A b ∨ w.heap.size ≤ b

theorem ShutG.trans {χ χ' χ'' : Chi} {w w' w'' : World} (h : ShutG χ w χ' w') (k : ShutG χ' w' χ'' w'') : ShutG χ w χ'' w'' where
  A := fun b hb => k.A b (h.A b hb)
  κ := fun b hb i => (k.κ b (h.A b hb) i).trans (h.κ b hb i)
  grown := grown_trans h.grown k.grown
  inv := k.inv
  An := fun b hb => by
    rcases k.An b hb with h1 | h1
    · exact h.An b h1
    · exact .inr (Nat.le_trans h.grown.size h1)

theorem ShutG.plain {χ : Chi} {w w' : World} (hi : Inv Tryd.prog χ w) (hg : w.grownBy w' none) : ShutG χ w χ w' :=
  ⟨fun _ h => h, fun _ _ _ => rfl, hg, hi.same fun b hb => hg.block b (hi.lt hb) (by simp), fun _ h => .inl h⟩

theorem ShutG.row {χ χ' : Chi} {w w' : World} (h : ShutG χ w χ' w') {cts : List CT} {ao : Option Addr} {c : Nat} (hr : RowOK χ χ.A cts ao c) : RowOK χ' χ'.A cts ao c := by
  cases ao with
  | none => exact hr
  | some ad => exact ⟨hr.1, h.A _ hr.2.1, fun i hi => by rw [h.κ _ hr.2.1]; exact hr.2.2 i hi⟩

theorem ShutG.typed {χ χ' : Chi} {w w' : World} (h : ShutG χ w χ' w') {t : TN} (ht : TypedN χ t) : TypedN χ' t := ⟨ht.c0, ht.t0, ht.l3, h.row ht.r3, ht.l4, h.row ht.r4⟩

/-- the contents of an integer -/
def IntPost (χ : Chi) (w : World) (e : Ending) (w' : World) : Prop :=
  ∃ (ao : Option Addr) (l c : Nat) (χ' : Chi), e = .returned (.slice ao l c) ∧ l ≤ 8 ∧ l ≤ c ∧ c ≤ CB ∧ RowOK χ' χ'.A oct ao c ∧ ShutG χ w χ' w'

theorem tau5b : tau Tryd.prog (.base 5) = oct := by kernel_rfl

set_option maxRecDepth 100000 in
theorem int_any (h211 : FnOK Tryd.prog 211 cTint) {χ : Chi} {w : World} (hi : Inv Tryd.prog χ w) {n : Int} (h0 : -9223372036854775808 ≤ n) (h1 : n ≤ 9223372036854775807) : Calls Tryd.prog 211 #[.int .i64 n] w (IntPost χ w) := by
  have e1 : cTint.iv = [some (-9223372036854775808, 9223372036854775807)] := by kernel_rfl
  have e2 : cTint.params = [.pv (.one (.int .i64 (.v 0)))] := by kernel_rfl
  have e3 : cTint.pre = [] := by kernel_rfl
  have e4 : cTint.riv = [some (0, 8), some (0, 9223372036854775807)] := by kernel_rfl
  have e5 : cTint.res = .pv (.one (.slice true (.base 5) (.v 1) (.v 2))) := by kernel_rfl
  have e6 : cTint.gl = [] := by kernel_rfl
  have e7 : cTint.nv = 1 := by simp [Contract.nv, e1]
  have hk := shut_call h211 (χ := χ.withρ (fun _ => n)) (w := w) (args := #[.int .i64 n]) (hi.withρ _) (by rw [e2]; exact ⟨rfl, trivial⟩) (by rw [e1]; exact ⟨⟨h0, h1⟩, trivial⟩) (by rw [e3]; trivial) e6
  refine hk.mono ?_
  rintro e w' ⟨v, χ', rfl, hg, hx, hm, hi', hv, hiv, _⟩
  rw [e5] at hv
  rw [e7, e4] at hiv
  obtain ⟨ao, l, c, rfl, p1, p2, p3, p4, p5⟩ := hv
  simp only [SE.ev, tau5b] at p5
  simp only [T.ev] at p1
  have hl := hiv.1.2
  refine ⟨ao, l, c, χ', rfl, by omega, p3, p4, RowOK.monoS hi'.sub p5, hx.A, hx.κ, hg, hi', hm.An⟩

theorem node_typed {χ : Chi} {vc vt : Int} {vb : Bool} {ao : Option Addr} {l c : Nat} (h0 : 0 ≤ vc) (h1 : vc ≤ 255) (ht : 0 ≤ vt ∧ vt ≤ 4294967295) (hl : l ≤ 1099511627776) (hlc : l ≤ c) (hcc : c ≤ CB) (hr : RowOK χ χ.A oct ao l) : TypedN χ ⟨vc, vt, vb, ao, l, c, none, 0, 0⟩ :=
  ⟨⟨h0, h1⟩, ht, ⟨hlc, hl, hcc⟩, hr, ⟨Nat.le_refl _, Nat.zero_le _, Nat.zero_le _⟩, rfl⟩

/-- typed whole, the room behind too -/
structure TypedC (χ : Chi) (t : TN) : Prop where
  n : TypedN χ t
  r3 : RowOK χ χ.A oct t.a3 t.c3
  r4 : RowOK χ χ.A treeC t.a4 t.c4

theorem ShutG.typedC {χ χ' : Chi} {w w' : World} (h : ShutG χ w χ' w') {t : TN} (ht : TypedC χ t) : TypedC χ' t := ⟨h.typed ht.n, h.row ht.r3, h.row ht.r4⟩

theorem node_typedC {χ : Chi} {vc vt : Int} {vb : Bool} {ao : Option Addr} {l c : Nat} (h0 : 0 ≤ vc) (h1 : vc ≤ 255) (ht : 0 ≤ vt ∧ vt ≤ 4294967295) (hl : l ≤ 1099511627776) (hlc : l ≤ c) (hcc : c ≤ CB) (hr : RowOK χ χ.A oct ao c) : TypedC χ ⟨vc, vt, vb, ao, l, c, none, 0, 0⟩ :=
  ⟨node_typed h0 h1 ht hl hlc hcc (row_short hr hlc), hr, rfl⟩

/-- an element, in new memory -/
def NodePost (χ : Chi) (w : World) (e : Ending) (w' : World) : Prop := ∃ (t : TN) (χ' : Chi), e = .returned t.agg ∧ TypedC χ' t ∧ ShutG χ w χ' w'

set_option maxRecDepth 100000 in
set_option maxHeartbeats 1600000 in
theorem xnumber_any (h211 : FnOK Tryd.prog 211 cTint) {χ : Chi} {w : World} (hi : Inv Tryd.prog χ w) {tag n : Int} (t0 : 0 ≤ tag) (t1 : tag ≤ 4294967295) (h0 : -9223372036854775808 ≤ n) (h1 : n ≤ 9223372036854775807) : Calls Tryd.prog 185 #[.int .u32 tag, .int .i64 n] w (NodePost χ w) := by
  have g1 := grown_alloc w (.cells #[.int .u8 0, .int .u32 0, .bool false, .slice none 0 0, .slice none 0 0] 270)
  have G1 := ShutG.plain hi g1
  have hE1 : (w.alloc (.cells #[.int .u8 0, .int .u32 0, .bool false, .slice none 0 0, .slice none 0 0] 270)).heap[w.heap.size]? = some (.cells #[.int .u8 0, .int .u32 0, .bool false, .slice none 0 0, .slice none 0 0] 270 (0, 0)) := by rw [alloc_get, if_pos rfl]
  have hin := int_any h211 G1.inv h0 h1
  go_enter Tryd.func185, Tryd.ntmps185
  go_wp2_with fail
  generalize w.alloc (.cells #[.int .u8 0, .int .u32 0, .bool false, .slice none 0 0, .slice none 0 0] 270) = w1 at *
  refine hin.mono ?_
  clear hin
  rintro e w2 ⟨ao, l, c, χ2, rfl, hl, hlc, hcc, hr, G2⟩
  have hE2 := (G2.grown.block _ (lt_of_blk hE1) (by simp)).trans hE1
  have m0 : w2.cell? ⟨w.heap.size, 0, none⟩ = some (.int .u8 0) := by rw [cell?_blk hE2]; rfl
  have m1 : w2.cell? ⟨w.heap.size, 1, none⟩ = some (.int .u32 0) := by rw [cell?_blk hE2]; rfl
  have m2 : w2.cell? ⟨w.heap.size, 2, none⟩ = some (.bool false) := by rw [cell?_blk hE2]; rfl
  have m3 : w2.cell? ⟨w.heap.size, 3, none⟩ = some (.slice none 0 0) := by rw [cell?_blk hE2]; rfl
  have m4 : w2.cell? ⟨w.heap.size, 4, none⟩ = some (.slice none 0 0) := by rw [cell?_blk hE2]; rfl
  have f : ∀ i, w2.frozen? ⟨w.heap.size, i, none⟩ = false := fun i => by rw [frozen?_blk hE2]; simp
  have f0 := f 0
  have f1 := f 1
  have f2 := f 2
  have f3 := f 3
  have f4 := f 4
  clear f
  go_wp2
  rw [set5 hE2]
  have hlt := lt_of_blk hE2
  have hnA : ¬ χ2.A w.heap.size := fun h => by
    rcases G2.An _ h with h | h
    · have := hi.lt h; omega
    · have := lt_of_blk hE1; omega
  have hEf : (setBlk w2 w.heap.size (.cells #[.int .u8 2, .int .u32 tag, .bool false, .slice ao l c, .slice none 0 0] 270 (0, 0))).heap[w.heap.size]? = some (.cells #[.int .u8 2, .int .u32 tag, .bool false, .slice ao l c, .slice none 0 0] 270 (0, 0)) := by rw [setBlk_get hlt, if_pos rfl]
  have GG := G1.trans G2
  have G3 : ShutG χ w χ2 (setBlk w2 w.heap.size (.cells #[.int .u8 2, .int .u32 tag, .bool false, .slice ao l c, .slice none 0 0] 270 (0, 0))) :=
    ⟨GG.A, GG.κ, ⟨GG.grown.os, GG.grown.tape, GG.grown.output, by rw [setBlk_size]; exact GG.grown.size, fun b hb _ => by rw [setBlk_get hlt, if_neg (by omega)]; exact GG.grown.block b hb (by simp)⟩, GG.inv.setOwn hnA hlt _, GG.An⟩
  generalize setBlk w2 w.heap.size (.cells #[.int .u8 2, .int .u32 tag, .bool false, .slice ao l c, .slice none 0 0] 270 (0, 0)) = wf at *
  have y0 : wf.cell? ⟨w.heap.size, 0, none⟩ = some (.int .u8 2) := by rw [cell?_blk hEf]; rfl
  have y1 : wf.cell? ⟨w.heap.size, 1, none⟩ = some (.int .u32 tag) := by rw [cell?_blk hEf]; rfl
  have y2 : wf.cell? ⟨w.heap.size, 2, none⟩ = some (.bool false) := by rw [cell?_blk hEf]; rfl
  have y3 : wf.cell? ⟨w.heap.size, 3, none⟩ = some (.slice ao l c) := by rw [cell?_blk hEf]; rfl
  have y4 : wf.cell? ⟨w.heap.size, 4, none⟩ = some (.slice none 0 0) := by rw [cell?_blk hEf]; rfl
  exact bodyPost_ret (v := .agg #[.int .u8 2, .int .u32 tag, .bool false, .slice ao l c, .slice none 0 0]) (by simp [results, Tryd.results185, go_sem, y0, y1, y2, y3, y4]) rfl
    ⟨⟨2, tag, false, ao, l, c, none, 0, 0⟩, χ2, rfl, node_typedC (by omega) (by omega) ⟨t0, t1⟩ (by omega) hlc hcc hr, G3⟩

end Go.Sx

/-
  Package transactions: 'uses', 'Check'.
-/
namespace Go.Sx
open Go Go.Proofs

set_option maxHeartbeats 1600000 in
theorem uses_any {w : World} {k : Int} : Calls Tryd.prog 184 #[.int .u8 k] w fun e w' => (∃ b1 b2 b3, e = .returned (.tuple #[.bool b1, .bool b2, .bool b3])) ∧ w' = w := by
  go_enter Tryd.func184, Tryd.ntmps184
  go_wp2
  all_goals
    exact bodyPost_ret (by simp [results, Tryd.results184, go_sem]; exact ⟨rfl, rfl, rfl⟩) rfl ⟨⟨_, _, _, rfl⟩, rfl⟩

set_option maxRecDepth 100000 in
set_option maxHeartbeats 3200000 in
theorem xcheck_any {w : World} {k x1 x2 x3 : Int} {ao : Option Addr} {l c : Nat} (hl : l ≤ 1099511627776) : Calls Tryd.prog 105 #[.agg #[.int .u8 k, .int .u32 x1, .int .u32 x2, .int .u8 x3, .slice ao l c]] w fun e w' => (∃ r : Int, e = .returned (.int .i64 r) ∧ 0 ≤ r ∧ r ≤ 3) ∧ w.grownBy w' none := by
  have hg0 := grown_alloc w (.cells #[.int .u8 k, .int .u32 x1, .int .u32 x2, .int .u8 x3, .slice ao l c] 162)
  have hE : (w.alloc (.cells #[.int .u8 k, .int .u32 x1, .int .u32 x2, .int .u8 x3, .slice ao l c] 162)).heap[w.heap.size]? = some (.cells #[.int .u8 k, .int .u32 x1, .int .u32 x2, .int .u8 x3, .slice ao l c] 162 (0, 0)) := by rw [alloc_get, if_pos rfl]
  go_enter Tryd.func105, Tryd.ntmps105
  go_upto_region 1 with fail
  generalize w.alloc (.cells #[.int .u8 k, .int .u32 x1, .int .u32 x2, .int .u8 x3, .slice ao l c] 162) = w1 at *
  have k0 : w1.cell? ⟨w.heap.size, 0, none⟩ = some (.int .u8 k) := by rw [cell?_blk hE]; rfl
  have k1 : w1.cell? ⟨w.heap.size, 1, none⟩ = some (.int .u32 x1) := by rw [cell?_blk hE]; rfl
  have k2 : w1.cell? ⟨w.heap.size, 2, none⟩ = some (.int .u32 x2) := by rw [cell?_blk hE]; rfl
  have k3 : w1.cell? ⟨w.heap.size, 3, none⟩ = some (.int .u8 x3) := by rw [cell?_blk hE]; rfl
  have k4 : w1.cell? ⟨w.heap.size, 4, none⟩ = some (.slice ao l c) := by rw [cell?_blk hE]; rfl
  by_cases hbig : l ≤ 3800
  · have hil : decide (3800 < l) = false := by simp; omega
    have hil2 : decide ((3800 : Int) < (l : Int)) = false := by simp; omega
    go_wp2_with fail
    refine (uses_any (w := w1) (k := k)).mono ?_
    rintro e w2 ⟨⟨b1, b2, b3, rfl⟩, hw⟩
    subst hw
    go_upto_region 4 with fail
    go_cut [17] (fun p wx => (∃ b, p = .bool b) ∧ wx = w2)
    case first =>
      go_wp2
      all_goals
        go_meet
        exact ⟨⟨_, rfl⟩, rfl⟩
    case rest =>
      obtain ⟨⟨b, rfl⟩, hw⟩ := hcut
      subst hw
      cases b with
      | true =>
        go_wp2
        exact bodyPost_ret (v := .int .i64 1) (by simp [results, Tryd.results105, go_sem]) rfl ⟨⟨1, rfl, by omega, by omega⟩, hg0⟩
      | false =>
        go_upto_region 6 with fail
        go_cut [26] (fun p wx => (∃ b, p = .bool b) ∧ wx = wc)
        case first =>
          cases b3
          all_goals go_wp2
          all_goals
            try subst_vars
            go_meet
            exact ⟨⟨_, rfl⟩, rfl⟩
        case rest =>
          obtain ⟨⟨b, rfl⟩, hw⟩ := hcut
          subst hw
          cases b with
          | true =>
            go_wp2
            exact bodyPost_ret (v := .int .i64 1) (by simp [results, Tryd.results105, go_sem]) rfl ⟨⟨1, rfl, by omega, by omega⟩, hg0⟩
          | false =>
            go_wp2
            exact bodyPost_ret (v := .int .i64 0) (by simp [results, Tryd.results105, go_sem]) rfl ⟨⟨0, rfl, by omega, by omega⟩, hg0⟩
  · have hil : decide (3800 < l) = true := by simp; omega
    have hil2 : decide ((3800 : Int) < (l : Int)) = true := by simp; omega
    go_wp2
    exact bodyPost_ret (v := .int .i64 3) (by simp [results, Tryd.results105, go_sem]) rfl ⟨⟨3, rfl, by omega, by omega⟩, hg0⟩

end Go.Sx

/-
  Package transactions: the parts of a message.
-/
namespace Go.Sx
open Go Go.Proofs

def partsV (ts : List TN) : List Value := ts.flatMap fun t => t.v.toList

theorem infoTree : (Tryd.prog.info? 270).map (fun i => (i.zero, i.size, i.bytes)) = some (some (.agg #[.int .u8 0, .int .u32 0, .bool false, .slice none 0 0, .slice none 0 0]), 5, 64) := by kernel_rfl

theorem infoTree' : ∃ i, Tryd.prog.info? 270 = some i ∧ i.zero = some (.agg #[.int .u8 0, .int .u32 0, .bool false, .slice none 0 0, .slice none 0 0]) ∧ i.size = 5 ∧ i.bytes = 64 := by
  have h := infoTree
  cases hi : Tryd.prog.info? 270 with
  | none => rw [hi] at h; cases h
  | some i =>
    rw [hi] at h
    simp only [Option.map_some, Option.some.injEq, Prod.mk.injEq] at h
    exact ⟨i, rfl, h.1, h.2.1, h.2.2⟩

theorem undTrees : Tryd.prog.underlying 268 = some (.slice 270) := by kernel_rfl

/-- each cell of the list's block is one cell -/
def OneAt (w : World) (v : Value) : Prop := ∀ g cs E fz, v.ownBlock = some g → w.heap[g]? = some (.cells cs E fz) → ∀ u ∈ cs.toList, u.oneCell' = true

theorem one_v (t : TN) : ∀ u ∈ t.v.toList, u.oneCell' = true := by
  intro u hu
  simp only [TN.v, List.mem_cons, List.not_mem_nil, or_false] at hu
  rcases hu with rfl | rfl | rfl | rfl | rfl <;> rfl

theorem one_zero (n : Nat) : ∀ u ∈ (Builtin.zeroCells (Value.agg #[.int .u8 0, .int .u32 0, .bool false, .slice none 0 0, .slice none 0 0]).cells n).toList, u.oneCell' = true := by
  intro u hu
  simp only [Builtin.zeroCells, Array.toList_map, List.mem_map] at hu
  obtain ⟨i, _, rfl⟩ := hu
  have : i % (Value.agg #[.int .u8 0, .int .u32 0, .bool false, .slice none 0 0, .slice none 0 0]).cells.size < 5 := Nat.mod_lt _ (by decide)
  generalize i % (Value.agg #[.int .u8 0, .int .u32 0, .bool false, .slice none 0 0, .slice none 0 0]).cells.size = q at *
  rcases q with _ | _ | _ | _ | _ | q
  · rfl
  · rfl
  · rfl
  · rfl
  · rfl
  · omega

set_option maxRecDepth 100000 in
theorem own_append {w : World} {base n B : Nat} {v : Value} {xs : List Value} {t : TN} (hown : w.ownsRow base 270 5 v n xs) (hone : OneAt w v) (hB : w.heap[B]? = some (.cells t.v 270 (0, 0))) (hn : n ≤ 100000) (hbase : base ≤ w.heap.size) (ty : TypeId) :
    ∃ g cap w', (Builtin.append_ #[268, 268] ty #[v, .slice (some ⟨B, 0, none⟩) 1 1]).run Tryd.prog w = .ok (.slice (some ⟨g, 0, none⟩) (n + 1) cap) w' ∧
      w'.ownsRow base 270 5 (.slice (some ⟨g, 0, none⟩) (n + 1) cap) (n + 1) (xs ++ t.v.toList) ∧ w.grownBy w' v.ownBlock ∧ (v.ownBlock = some g ∨ g = w.heap.size) ∧ g < w'.heap.size ∧ OneAt w' (.slice (some ⟨g, 0, none⟩) (n + 1) cap) := by
  obtain ⟨iT, hiT, hz0, hz1, hz2⟩ := infoTree'
  obtain ⟨g, cap, w', hr, h2, h3, h4, h5⟩ := run_append_lies (P := Tryd.prog) w 268 ty base 270 iT (.agg #[.int .u8 0, .int .u32 0, .bool false, .slice none 0 0, .slice none 0 0]) 5 64 undTrees hiT hz0 hz1 hz2 rfl (by decide) v n xs hown ⟨B, 0, none⟩ 1 1 t.v.toList rfl (World.news_of_block hB) (one_v t) (by decide) (by unfold maxLen; omega) (by omega) hbase _ rfl
  refine ⟨g, cap, w', hr, h2, h3, h4, h5, ?_⟩
  have hload : ∀ w' : World, w'.heap = w.heap → (Builtin.firstCells iT.size 1 (.slice (some ⟨B, 0, none⟩) 1 1)).run Tryd.prog w' = .ok t.v w' := fun w' hw => by
    rw [hz1]
    exact run_loadCells_blk _ (by rw [hw]; exact hB) 0 5 (by simp [TN.v])
  have out : ∀ {ao : Option Addr} {c : Nat} {old : Array Value}, v = .slice ao n c → ¬ n + 1 ≤ c → (Builtin.firstCells iT.size n (.slice ao n c)).run Tryd.prog w.drew = .ok old w.drew → (∀ u ∈ old.toList, u.oneCell' = true) → OneAt w' (.slice (some ⟨g, 0, none⟩) (n + 1) cap) := by
    intro ao c old hv hroom hold h1
    subst hv
    obtain ⟨cap', c1, c2, hr'⟩ := run_append_out (P := Tryd.prog) (w := w) (ts := #[268, 268]) (ty := ty) (base := ao) (sLen := n) (sCap := c) (n := 1) (x := .slice (some ⟨B, 0, none⟩) 1 1) rfl rfl undTrees undTrees rfl hiT hz0 rfl hroom (by unfold CB; omega) (by rw [hz2]; omega) hold (hload w.drew rfl)
    rw [hr] at hr'
    injection hr' with e1 e2
    intro g' cs E fz hg hc u hu
    injection e1 with e3 e4 e5
    injection e3 with e3
    injection e3 with e3
    simp only [Value.ownBlock, Option.some.injEq] at hg
    subst hg
    rw [e2, alloc_get, if_pos (by rw [e3]; rfl)] at hc
    cases hc
    simp only [Array.toList_append, List.mem_append] at hu
    rcases hu with (hu | hu) | hu
    · exact h1 u hu
    · exact one_v t u hu
    · exact one_zero _ u hu
  rcases hown.2 with ⟨hv, h0⟩ | ⟨g0, cap0, cur, hv, hb, hg0, hnc, hcm, hcs, htk⟩
  · subst h0
    exact out (old := #[]) hv (by omega) rfl (fun u hu => by simp at hu)
  · have hcur : ∀ u ∈ cur.toList, u.oneCell' = true := hone g0 cur _ _ (by rw [hv]; rfl) hg0
    by_cases hroom : n + 1 ≤ cap0
    · subst hv
      have hst := run_storeCells_blk Tryd.prog t.v.toList g0 (n * 5) 0 w cur 270 (0, 0) hg0 (by rw [hcs]; simp [TN.v]; omega) (fun j _ h => by omega) (one_v t)
      have hr' := run_append_in (P := Tryd.prog) (w := w) (ts := #[268, 268]) (ty := ty) (base := some ⟨g0, 0, none⟩) (sLen := n) (sCap := cap0) (n := 1) (x := .slice (some ⟨B, 0, none⟩) 1 1) rfl rfl undTrees undTrees rfl hiT rfl (hload w rfl) hroom (by
        show (storeCells ((⟨g0, 0, none⟩ : Addr).add (n * iT.size)) t.v.toList).run Tryd.prog w = _
        rw [hz1, Addr.add_none, Nat.zero_add]
        exact hst)
      rw [hr] at hr'
      injection hr' with e1 e2
      injection e1 with e3 e4 e5
      injection e3 with e3
      injection e3 with e3
      intro g' cs E fz hg hc u hu
      simp only [Value.ownBlock, Option.some.injEq] at hg
      subst hg
      rw [e2, e3, setBlk_get (lt_of_blk hg0), if_pos rfl] at hc
      cases hc
      obtain ⟨i, hi⟩ := List.getElem?_of_mem hu
      rw [Array.getElem?_toList, spl_get _ _ _ _ (by rw [hcs]; simp [TN.v]; omega)] at hi
      split at hi
      · exact one_v t u (List.mem_of_getElem? hi)
      · exact hcur u (List.mem_of_getElem? (by rw [Array.getElem?_toList]; exact hi))
    · have hl := run_loadCells_blk Tryd.prog (w := w.drew) (b := g0) (cs := cur) (E := 270) (fz := (0, 0)) hg0 0 (n * 5) (by rw [hcs]; omega)
      refine out (old := cur.extract 0 (0 + n * 5)) hv hroom (by rw [hz1]; exact hl) (fun u hu => hcur u ?_)
      simp only [Array.toList_extract, List.extract_eq_take_drop] at hu
      exact List.mem_of_mem_take hu

/-- the parts so far: a list of one's own that no typed memory knows -/
structure Parts (χ : Chi) (w : World) (E : Nat) (k : Int) (χx : Chi) (wx : World) (n : Nat) (v : Value) (ts : List TN) : Prop where
  g : ShutG χ w χx wx
  hE : w.heap.size ≤ E
  lt : E + 1 ≤ wx.heap.size
  at_ : wx.heap[E]? = some (.cells #[.int .u8 1, .int .u32 k, .bool true, .slice none 0 0, v] 270 (0, 0))
  nE : ¬ χx.A (E)
  own : wx.ownsRow (E + 1) 270 5 v n (partsV ts)
  len : ts.length = n
  typed : ∀ t ∈ ts, TypedC χx t
  one : OneAt wx v
  nv : ∀ g, v.ownBlock = some g → ¬ χx.A g

theorem parts_step {χ χx χ2 : Chi} {w wx w2 w3 : World} {k : Int} {E n g cap : Nat} {v : Value} {ts : List TN} {t : TN} (hP : Parts χ w E k χx wx n v ts) (G2 : ShutG χx wx χ2 w2) (ht : TypedC χ2 t) (hone : OneAt w3 (.slice (some ⟨g, 0, none⟩) (n + 1) cap))
    (own3 : w3.ownsRow (E + 1) 270 5 (.slice (some ⟨g, 0, none⟩) (n + 1) cap) (n + 1) (partsV ts ++ t.v.toList)) (hgr : (w2.alloc (.cells t.v 270)).grownBy w3 v.ownBlock)
    (hor : v.ownBlock = some g ∨ g = (w2.alloc (.cells t.v 270)).heap.size) :
    Parts χ w E k χ2 (w3.setCell ⟨E, 4, none⟩ (.slice (some ⟨g, 0, none⟩) (n + 1) cap)) (n + 1) (.slice (some ⟨g, 0, none⟩) (n + 1) cap) (ts ++ [t]) := by
  have hlt := hP.lt
  have hEw := hP.hE
  have hs2 := G2.grown.size
  have hs3 := hgr.size
  have hsa := alloc_size w2 (.cells t.v 270)
  have hvE : ∀ b, v.ownBlock = some b → E + 1 ≤ b ∧ b < wx.heap.size := fun b h => hP.own.lt b h
  have key : ∀ b, b < w2.heap.size → v.ownBlock ≠ some b → w3.heap[b]? = w2.heap[b]? := fun b hb hn =>
    (hgr.block b (by omega) (fun e => hn e.symm)).trans ((grown_alloc w2 _).block b hb (by simp))
  have hE3 : w3.heap[E]? = some (.cells #[.int .u8 1, .int .u32 k, .bool true, .slice none 0 0, v] 270 (0, 0)) :=
    (key _ (by omega) (fun h => by have := (hvE _ h).1; omega)).trans ((G2.grown.block _ (by omega) (by simp)).trans hP.at_)
  have hlt3 := lt_of_blk hE3
  rw [setCell_blk hE3]
  have hn2 : ∀ b, b < wx.heap.size → ¬ χx.A b → ¬ χ2.A b := fun b hb hA h => by
    rcases G2.An b h with h | h
    · exact hA h
    · omega
  have hnE2 := hn2 _ (by omega) hP.nE
  have hgE : g ≠ E := fun e => by
    rcases hor with h | h
    · have := (hvE _ h).1; omega
    · omega
  have hg4 : w3.grownBy (setBlk w3 (E) (.cells (#[Value.int .u8 1, .int .u32 k, .bool true, .slice none 0 0, v].setIfInBounds 4 (.slice (some ⟨g, 0, none⟩) (n + 1) cap)) 270 (0, 0))) (some (E)) :=
    ⟨rfl, rfl, rfl, by rw [setBlk_size]; exact Nat.le_refl _, fun b hb hn => by rw [setBlk_get hlt3, if_neg (fun e => hn (by rw [e]))]⟩
  have G := hP.g.trans G2
  refine ⟨⟨G.A, G.κ, ⟨?_, ?_, ?_, ?_, fun b hb _ => ?_⟩, G.inv.same fun b hb => ?_, G.An⟩, hEw, ?_, ?_, hnE2, ?_, by simp [hP.len], fun t' h => ?_, ?_, fun b hb => ?_⟩
  · exact hg4.os.trans (hgr.os.trans ((grown_alloc w2 _).os.trans G.grown.os))
  · exact hg4.tape.trans (hgr.tape.trans ((grown_alloc w2 _).tape.trans G.grown.tape))
  · exact hg4.output.trans (hgr.output.trans ((grown_alloc w2 _).output.trans G.grown.output))
  · rw [setBlk_size]; omega
  · rw [setBlk_get hlt3, if_neg (by omega)]
    exact (key b (by omega) (fun h => by have := (hvE _ h).1; omega)).trans (G.grown.block b hb (by simp))
  · have hb2 := G.inv.lt hb
    rw [setBlk_get hlt3, if_neg (fun e : b = E => hnE2 (e ▸ hb))]
    exact key b hb2 (fun h => hn2 b (hvE _ h).2 (hP.nv b h) hb)
  · rw [setBlk_size]; omega
  · rw [setBlk_get hlt3, if_pos rfl]; rfl
  · have e : partsV (ts ++ [t]) = partsV ts ++ t.v.toList := by simp [partsV]
    rw [e]
    exact own3.kept hg4 (.inr (by simp only [Value.ownBlock]; exact fun e => hgE (by cases e; rfl)))
  · rcases List.mem_append.1 h with h | h
    · exact G2.typedC (hP.typed t' h)
    · rw [List.mem_singleton.1 h]; exact ht
  · intro g' cs E' fz hg hc
    rw [setBlk_get hlt3, if_neg (fun e => by simp only [Value.ownBlock, Option.some.injEq] at hg; exact hgE (hg.trans e))] at hc
    exact hone g' cs E' fz hg hc
  · simp only [Value.ownBlock, Option.some.injEq] at hb
    subst hb
    rcases hor with h | h
    · exact hn2 g (hvE _ h).2 (hP.nv g h)
    · exact fun hA => by have := G2.inv.lt hA; omega

theorem parts_one {χ χx : Chi} {w wx w9 : World} {k : Int} {E n : Nat} {v : Value} {ts : List TN} (hP : Parts χ w E k χx wx n v ts) (hg : wx.grownBy w9 none) (o : Obj) : OneAt (w9.alloc o) v := by
  intro g cs E' fz h1 h2
  have h3 := (hP.own.lt g h1).2
  have h4 := hg.size
  rw [alloc_get, if_neg (by omega), hg.block g h3 (by simp)] at h2
  exact hP.one g cs E' fz h1 h2

theorem TypedC.per {χ : Chi} {t : TN} (h : TypedC χ t) : PerOK Tryd.prog χ χ.A treeC t.v := by
  intro i v hv
  rcases i with _ | _ | _ | _ | _ | i
  · cases hv; exact ⟨.int .u8 0 255, rfl, t.vc, rfl, h.n.c0⟩
  · cases hv; exact ⟨.int .u32 0 4294967295, rfl, t.vt, rfl, h.n.t0⟩
  · cases hv; exact ⟨.bool, rfl, t.vb, rfl⟩
  · cases hv; exact ⟨.slice (.base 5), rfl, t.a3, t.l3, t.c3, rfl, h.n.l3.1, h.n.l3.2.1, h.n.l3.2.2, by rw [tauO]; exact h.r3⟩
  · cases hv; exact ⟨.slice (.base 270), rfl, t.a4, t.l4, t.c4, rfl, h.n.l4.1, h.n.l4.2.1, h.n.l4.2.2, by rw [tauT]; exact h.r4⟩
  · simp [TN.v] at hv

theorem parts_per {χ : Chi} : ∀ {ts : List TN}, (∀ t ∈ ts, TypedC χ t) → PerOK Tryd.prog χ χ.A treeC (partsV ts).toArray ∧ (partsV ts).length = ts.length * 5
  | [], _ => ⟨PerOK.empty, rfl⟩
  | t :: ts, h => by
    obtain ⟨h1, h2⟩ := parts_per (ts := ts) (fun u hu => h u (List.mem_cons_of_mem _ hu))
    have e : partsV (t :: ts) = t.v.toList ++ partsV ts := by simp [partsV]
    refine ⟨?_, by rw [e, List.length_append, h2]; simp [TN.v]; omega⟩
    have e2 : (partsV (t :: ts)).toArray = t.v ++ (partsV ts).toArray := by rw [e]; simp
    rw [e2]
    exact PerOK.append (a := 1) (h t (by simp)).per rfl h1

set_option maxRecDepth 100000 in
/-- the list's block taken into typed memory -/
theorem parts_end {χ χx : Chi} {w wx : World} {k : Int} {E n : Nat} {v : Value} {ts : List TN} (hP : Parts χ w E k χx wx n v ts) (hk : 0 ≤ k ∧ k ≤ 255) (hn : n ≤ 100) :
    ∃ χe, Calls Tryd.prog 186 #[.agg #[.int .u8 1, .int .u32 k, .bool true, .slice none 0 0, v]] wx (BErr χe wx) ∧ (∀ b, ¬ χe.F b) ∧ ShutG χ w χe wx := by
  rcases hP.own.2 with ⟨hv, h0⟩ | ⟨g, cap, cs, hv, hb, hg, hnc, hcm, hcs, htk⟩
  · subst hv
    have ht : TypedN χx.shut ⟨1, k, true, none, 0, 0, none, 0, 0⟩ := ⟨⟨by show (0 : Int) ≤ 1; omega, by show (1 : Int) ≤ 255; omega⟩, ⟨by show 0 ≤ k; omega, by show k ≤ 4294967295; omega⟩, ⟨Nat.le_refl _, Nat.zero_le _, Nat.zero_le _⟩, rfl, ⟨Nat.le_refl _, Nat.zero_le _, Nat.zero_le _⟩, rfl⟩
    have hc := encodeT_any hP.g.inv.shut ht
    unfold TN.agg at hc
    exact ⟨χx.shut, hc, fun _ h => h, ⟨hP.g.A, hP.g.κ, hP.g.grown, hP.g.inv.shut, hP.g.An⟩⟩
  · obtain ⟨hper, hpl⟩ := parts_per hP.typed
    have hlen := hP.len
    have hnA : ¬ χx.A g := hP.nv g (by rw [hv]; rfl)
    have hcs5 : n * 5 ≤ cs.size := by rw [hcs]; omega
    have hone := hP.one g cs _ _ (by rw [hv]; rfl) hg
    have hty : TypedBy Tryd.prog χx χx.A cs (fun i => if i < n * 5 then treeC[i % 5]? else if i < cs.size then some .any else none) := by
      intro i
      by_cases h1 : i < n * 5
      · have hlt : i < cs.size := by omega
        have e1 : (partsV ts)[i]? = cs[i]? := by rw [← htk, List.getElem?_take, if_pos h1, Array.getElem?_toList]
        obtain ⟨u, hu⟩ : ∃ u, cs[i]? = some u := ⟨cs[i], by simp [hlt]⟩
        obtain ⟨ct, c1, c2⟩ := hper i u (by rw [List.getElem?_toArray, e1]; exact hu)
        have c1' : treeC[i % 5]? = some ct := c1
        simp only [hu, if_pos h1, c1']
        exact c2
      · by_cases h2 : i < cs.size
        · have hu : cs[i]? = some cs[i] := by simp [h2]
          simp only [hu, if_neg h1, if_pos h2]
          exact hone _ (by simp)
        · have hu : cs[i]? = none := by simp; omega
          simp only [hu, if_neg h1, if_neg h2]
    obtain ⟨hi, hx⟩ := Inv.adopt hP.g.inv hnA _ hg hty
    have ht : TypedN (χx.alloc g false (fun i => if i < n * 5 then treeC[i % 5]? else if i < cs.size then some .any else none)).shut ⟨1, k, true, none, 0, 0, some ⟨g, 0, none⟩, n, cap⟩ :=
      ⟨⟨by show (0 : Int) ≤ 1; omega, by show (1 : Int) ≤ 255; omega⟩, ⟨by show 0 ≤ k; omega, by show k ≤ 4294967295; omega⟩, ⟨Nat.le_refl _, Nat.zero_le _, Nat.zero_le _⟩, rfl, ⟨hnc, by show n ≤ 1099511627776; omega, by show cap ≤ 9223372036854775807; unfold maxLen at hcm; omega⟩,
       ⟨rfl, .inr rfl, fun i hi => by
        have hi5 : i < n * 5 := hi
        show (if g = g then _ else _) = _
        rw [if_pos rfl]
        simp only [Nat.zero_add]
        rw [if_pos hi5]
        rfl⟩⟩
    subst hv
    have hc := encodeT_any hi.shut ht
    unfold TN.agg at hc
    refine ⟨_, hc, fun _ h => h, ⟨fun b h => .inl (hP.g.A b h), fun b h i => ?_, hP.g.grown, hi.shut, fun b h => ?_⟩⟩
    · exact (hx.κ b (hP.g.A b h) i).trans (hP.g.κ b h i)
    · rcases h with h | h
      · exact hP.g.An b h
      · have := hP.hE; exact .inr (by omega)

end Go.Sx
