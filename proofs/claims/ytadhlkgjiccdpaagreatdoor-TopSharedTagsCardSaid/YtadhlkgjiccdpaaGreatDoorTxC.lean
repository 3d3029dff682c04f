/- Part TxC of a proof: helper lemmas; no conditions. -/
import Derived.Test.YtadhlkgjiccdpaaGreatDoorTgO
import Derived.Test.YtadhlkgjiccdpaaGreatDoorTgN
import Derived.Test.YtadhlkgjiccdpaaGreatDoorTrA
import Derived.Test.YtadhlkgjiccdpaaGreatDoorJ
import Derived.Deep.Cut
import Derived.Test.YtadhlkgjiccdpaaGreatDoorTxA
import Derived.Test.YtadhlkgjiccdpaaGreatDoorTgJ

set_option linter.unusedSimpArgs false
set_option linter.unusedVariables false

namespace Go.Sx
open Go Go.Proofs

theorem copy_bytes {χ : Chi} {w : World} (hi : Inv Tryz.prog χ w) {b off l c : Nat} {x : Value} (hlc : l ≤ c) (hrow : RowOK χ χ.F oct (some ⟨b, off, none⟩) c) (hs : Src χ w x l) (ty : TypeId) :
    ∃ w', (Builtin.copy_ #[27, 27] ty #[.slice (some ⟨b, off, none⟩) l c, x]).run Tryz.prog w = .ok (goInt l) w' ∧ Inv Tryz.prog χ w' ∧ MemExt χ w χ w' := by
  obtain ⟨vs, hf, hvsz, hper⟩ := hs.vs
  obtain ⟨w', h1, h2, h3⟩ := write_row hi (k := 0) hrow (n := l) (by omega) (by decide) hvsz hper
  simp only [Nat.zero_mul, Nat.add_zero] at h1
  refine ⟨w', ?_, h2, h3⟩
  have hsz : sizeAt Tryz.prog 5 = some 1 := by kernel_rfl
  unfold Builtin.copy_
  simp only [List.getElem?_toArray, List.getElem?_cons_zero, List.getElem?_cons_succ]
  rw [Sem.run_bind, run_und und46]
  simp only [Result.andThen_ok]
  rw [Sem.run_bind, hs.len w]
  simp only [Result.andThen_ok]
  rw [Sem.run_bind, run_sizeAt hsz]
  simp only [Result.andThen_ok]
  rw [show Nat.min l l = l from Nat.min_self l, Sem.run_bind, hf w rfl]
  simp only [Result.andThen_ok]
  rw [Sem.run_bind, h1]
  rfl

theorem ext0 {n : Nat} {χ χ' : Chi} (h : Ext n χ χ') : Ext 0 χ χ' := ⟨fun _ hi => absurd hi (Nat.not_lt_zero _), h.F, h.A, h.κ⟩

theorem make_row {χ : Chi} {w : World} (hi : Inv Tryz.prog χ w) {T e : TypeId} {z : Value} {cts : List CT} {bytes l : Nat} (hT : Tryz.prog.underlying T = some (.slice e)) (hinf : ∃ i, Tryz.prog.info? e = some i ∧ i.zero = some z ∧ i.size = cts.length ∧ i.bytes = bytes)
    (hfit : constFitL z.cells.toList cts = true) (hlen : 1 ≤ cts.length) (hb : bytes * l ≤ 281474976710656) (hl : l ≤ 1099511627776) :
    ∃ w' χ', (Instr.makeSlice T (.int .i64 (l : Int)) (.int .i64 (l : Int))).run Tryz.prog w = .ok (.slice (some ⟨w.heap.size, 0, none⟩) l l) w' ∧ TGrows χ w χ' w' ∧ RowOK χ' χ'.F cts (some ⟨w.heap.size, 0, none⟩) l ∧ χ'.A w.heap.size ∧ w.grownBy w' none := by
  obtain ⟨i, hi1, hz, hs, hby⟩ := hinf
  have hr := run_make (P := Tryz.prog) w T e i z hT hi1 hz .i64 .i64 (l : Int) (l : Int) (by omega) (by omega) (by rw [hby]; omega) (by omega)
  simp only [Int.toNat_natCast] at hr
  rw [hs] at hr
  refine ⟨_, χ.alloc w.heap.size true (perK cts l), hr, ⟨ext0 (Ext.alloc hi w.heap.size _ _), MemExt.alloc .., Inv.alloc hi true _ _ _ _ (madeCells_typed hfit hlen _) (fun _ i hi h => by simp at h)⟩, perK_row (w := w) (fr := true), .inr rfl, grown_alloc w _⟩

theorem wpList_copy_run {P : Program} {ops : Array Oper} {rest : List Oper} {o : Oper} {a : Act} {w : World} {Q : Exit → Act → World → Prop} (hgd : o.guard = none) (s x : Operand) (t t2 : TypeId)
    (hop : o.op = .call { callee := .builtin .copy, args := #[s, x], argTypes := #[t, t2] }) {vs vx v : Value} {w' : World} (hs : a.eval s = vs) (hx : a.eval x = vx)
    (hrun : (Builtin.copy_ #[t, t2] o.type #[vs, vx]).run P w = .ok v w') (h : wpList P ops Q rest (a.put o.dst v) w') : wpList P ops Q (o :: rest) a w :=
  wpList_plain hgd fun K hK => by
    have hr := run_call_builtin (P := P) (a := a) (w := w) (w' := w') (o := o) (b := .copy) (v := v) hop rfl (s := Builtin.copy_ #[t, t2] o.type #[vs, vx]) (fun consts => by simp [hs, hx]; rfl) hrun
    unfold Oper.wp
    rw [hr]
    exact hK _ _ h

def OwnP (χ : Chi) (w : World) (e : Ending) (w' : World) : Prop := ∃ (χ' : Chi) (t' : TN), e = .returned t'.agg ∧ TF χ' t' ∧ TGrows χ w χ' w'

structure OwnV (χ : Chi) (w : World) (E R : Nat) (t : TN) : Prop where
  atE : w.heap[E]? = some (.cells #[.int .u8 t.vc, .int .u32 t.vt, .bool t.vb, .slice t.a3 t.l3 t.c3, .slice t.a4 t.l4 t.c4] 61 (0, 0))
  atR : w.heap[R]? = some (.cells #[.int .u8 0, .int .u32 0, .bool false, .slice none 0 0, .slice none 0 0] 61 (0, 0))
  nE : ¬ χ.A E
  nR : ¬ χ.A R

theorem OwnV.step {χ χ' : Chi} {w w' : World} {E R : Nat} {t : TN} (hi : Inv Tryz.prog χ w) (h : OwnV χ w E R t) (g : TGrows χ w χ' w') : OwnV χ' w' E R t := by
  obtain ⟨a1, a2⟩ := g.keep h.atE (fun hF => h.nE (hi.sub _ hF))
  obtain ⟨b1, b2⟩ := g.keep h.atR (fun hF => h.nR (hi.sub _ hF))
  refine ⟨a1, b1, fun hA => ?_, fun hA => ?_⟩
  · rcases g.mem.An _ hA with h1 | h1
    · exact h.nE h1
    · have := lt_of_blk h.atE; omega
  · rcases g.mem.An _ hA with h1 | h1
    · exact h.nR h1
    · have := lt_of_blk h.atR; omega

theorem OwnV.put3 {χ : Chi} {w : World} {E R : Nat} {t : TN} (h : OwnV χ w E R t) (hER : E ≠ R) (a : Option Addr) (l c : Nat) :
    w.setCell ⟨E, 3, none⟩ (.slice a l c) = setBlk w E (.cells #[.int .u8 t.vc, .int .u32 t.vt, .bool t.vb, .slice a l c, .slice t.a4 t.l4 t.c4] 61 (0, 0)) ∧
    OwnV χ (w.setCell ⟨E, 3, none⟩ (.slice a l c)) E R ⟨t.vc, t.vt, t.vb, a, l, c, t.a4, t.l4, t.c4⟩ := by
  have e : w.setCell ⟨E, 3, none⟩ (.slice a l c) = setBlk w E (.cells #[.int .u8 t.vc, .int .u32 t.vt, .bool t.vb, .slice a l c, .slice t.a4 t.l4 t.c4] 61 (0, 0)) := by rw [setCell_blk h.atE]; rfl
  have hlt := lt_of_blk h.atE
  exact ⟨e, by rw [e, setBlk_get hlt, if_pos rfl], by rw [e, setBlk_get hlt, if_neg (fun e => hER e.symm)]; exact h.atR, h.nE, h.nR⟩

theorem OwnV.put4 {χ : Chi} {w : World} {E R : Nat} {t : TN} (h : OwnV χ w E R t) (hER : E ≠ R) (a : Option Addr) (l c : Nat) :
    w.setCell ⟨E, 4, none⟩ (.slice a l c) = setBlk w E (.cells #[.int .u8 t.vc, .int .u32 t.vt, .bool t.vb, .slice t.a3 t.l3 t.c3, .slice a l c] 61 (0, 0)) ∧
    OwnV χ (w.setCell ⟨E, 4, none⟩ (.slice a l c)) E R ⟨t.vc, t.vt, t.vb, t.a3, t.l3, t.c3, a, l, c⟩ := by
  have e : w.setCell ⟨E, 4, none⟩ (.slice a l c) = setBlk w E (.cells #[.int .u8 t.vc, .int .u32 t.vt, .bool t.vb, .slice t.a3 t.l3 t.c3, .slice a l c] 61 (0, 0)) := by rw [setCell_blk h.atE]; rfl
  have hlt := lt_of_blk h.atE
  exact ⟨e, by rw [e, setBlk_get hlt, if_pos rfl], by rw [e, setBlk_get hlt, if_neg (fun e => hER e.symm)]; exact h.atR, h.nE, h.nR⟩

theorem TGrows.setNew {χ χ' : Chi} {w wx : World} (h : TGrows χ w χ' wx) {g : Nat} (hg : w.heap.size ≤ g) (hA : ¬ χ'.A g) (hlt : g < wx.heap.size) (o : Obj) : TGrows χ w χ' (setBlk wx g o) :=
  ⟨h.ext, ⟨h.mem.os, h.mem.tape, h.mem.output, by rw [setBlk_size]; exact h.mem.size, fun b hb hF => by rw [setBlk_get hlt, if_neg (by omega)]; exact h.mem.old b hb hF, h.mem.Fn, h.mem.An⟩, h.inv.setOwn hA hlt o⟩

theorem rowA_re {χ χ' : Chi} (h : Ext 0 χ χ') {cts : List CT} {ao : Option Addr} {c : Nat} (hr : RowOK χ χ.A cts ao c) : RowOK χ' χ'.A cts ao c := RowOK.ext h h.A (fun _ h => h) hr

theorem owned_cal : callable Tryz.prog 132 = true := by kernel_rfl

theorem infoB5' : ∃ i, Tryz.prog.info? 5 = some i ∧ i.zero = some (.int .u8 0) ∧ i.size = oct.length ∧ i.bytes = 1 := by
  obtain ⟨i, h1, h2, h3, h4⟩ := infoB5
  exact ⟨i, h1, h4, h2, h3⟩

theorem neq_nil {T e : TypeId} (hu : Tryz.prog.underlying T = some (.slice e)) (a : Option Addr) (l c : Nat) (w : World) : (binOp BinOp.neq T (.slice a l c) (.slice none 0 0)).run Tryz.prog w = .ok (.bool a.isSome) w := by
  have h := run_eql_slice (P := Tryz.prog) (w := w) hu a l c
  simp [binOp, h]

set_option maxRecDepth 100000 in
set_option maxHeartbeats 3200000 in
theorem owned_any {χ0 : Chi} {w0 : World} (hi0 : Inv Tryz.prog χ0 w0) (hF0 : ∀ b, ¬ χ0.F b) : ∀ k {t : TN}, TypedC χ0 t → SmV 2000 w0 (treeD k) (fun i => t.v[i]?) 0 → ∀ {χ : Chi} {w : World}, TGrows χ0 w0 χ w → Calls Tryz.prog 132 #[t.agg] w (OwnP χ w) := by
  intro k
  induction k with
  | zero => intro t _ h; exact h.elim
  | succ k ih =>
    intro t hct hsm χ w G
    have hl3 : t.l3 ≤ 2000 := (hsm.2.2.2.1 t.a3 t.l3 t.c3 rfl).1
    have hl4 : t.l4 ≤ 2000 := (hsm.2.2.2.2 t.a4 t.l4 t.c4 rfl).1
    have hkid := (hsm.2.2.2.2 t.a4 t.l4 t.c4 rfl).2
    clear hsm
    obtain ⟨vc, vt, vb, a3, l3, c3, a4, l4, c4⟩ := t
    dsimp only at *
    have hg0 := grown_alloc w (.cells #[.int .u8 vc, .int .u32 vt, .bool vb, .slice a3 l3 c3, .slice a4 l4 c4] 61)
    have hE0 : (w.alloc (.cells #[.int .u8 vc, .int .u32 vt, .bool vb, .slice a3 l3 c3, .slice a4 l4 c4] 61)).heap[w.heap.size]? = some (.cells #[.int .u8 vc, .int .u32 vt, .bool vb, .slice a3 l3 c3, .slice a4 l4 c4] 61 (0, 0)) := by rw [alloc_get, if_pos rfl]
    have hs1 := alloc_size w (.cells #[.int .u8 vc, .int .u32 vt, .bool vb, .slice a3 l3 c3, .slice a4 l4 c4] 61)
    unfold TN.agg
    go_enter Tryz.func132, Tryz.ntmps132
    go_upto_region 1 with fail
    generalize w.alloc (.cells #[.int .u8 vc, .int .u32 vt, .bool vb, .slice a3 l3 c3, .slice a4 l4 c4] 61) = w1 at *
    have hg1 := grown_alloc w1 (.cells #[.int .u8 0, .int .u32 0, .bool false, .slice none 0 0, .slice none 0 0] 61)
    have hR2 : (w1.alloc (.cells #[.int .u8 0, .int .u32 0, .bool false, .slice none 0 0, .slice none 0 0] 61)).heap[w1.heap.size]? = some (.cells #[.int .u8 0, .int .u32 0, .bool false, .slice none 0 0, .slice none 0 0] 61 (0, 0)) := by rw [alloc_get, if_pos rfl]
    have hE2 := (hg1.block _ (lt_of_blk hE0) (by simp)).trans hE0
    rw [hs1] at hR2
    generalize w1.alloc (.cells #[.int .u8 0, .int .u32 0, .bool false, .slice none 0 0, .slice none 0 0] 61) = w2 at *
    have G2 := TGrows.plain G.inv (grown_trans hg0 hg1)
    have hV2 : OwnV χ w2 w.heap.size (w.heap.size + 1) ⟨vc, vt, vb, a3, l3, c3, a4, l4, c4⟩ := ⟨hE2, hR2, fun h => by have := G.inv.lt h; omega, fun h => by have := G.inv.lt h; omega⟩
    have hGG := G.trans G2
    have k3 : w2.cell? ⟨w.heap.size, 3, none⟩ = some (.slice a3 l3 c3) := by rw [cell?_blk hE2]; rfl
    have hne := neq_nil und46 a3 l3 c3 w2
    go_upto_if 9 with fail
    go_cut [] (fun wx => ∃ (χ1 : Chi) (ao : Option Addr) (c : Nat), TGrows χ w χ1 wx ∧ l3 ≤ c ∧ c ≤ CB ∧ RowOK χ1 χ1.F oct ao c ∧ OwnV χ1 wx w.heap.size (w.heap.size + 1) ⟨vc, vt, vb, ao, l3, c, a4, l4, c4⟩)
    case first =>
      have hr3 := hct.r3
      have hl33 := hct.n.l3
      dsimp only at hr3 hl33
      cases a3 with
      | none =>
        obtain rfl : c3 = 0 := hr3
        obtain rfl : l3 = 0 := by omega
        go_wp2_with fail
        go_meet
        exact ⟨χ, none, 0, G2, Nat.le_refl _, by unfold CB; omega, rfl, hV2⟩
      | some ad =>
        obtain ⟨w3, χ3, hmk, G3, hrow3, hA3⟩ := make_row G2.inv und46 infoB5' (l := l3) (by decide) (by decide) (by omega) (by omega)
        have hV3 := hV2.step G2.inv G3
        have hsrc := Src.row G3.inv hl33.1 (rowA_re (hGG.trans G3).ext hr3)
        obtain ⟨w4, hcp, hi4, hm4⟩ := copy_bytes G3.inv (Nat.le_refl l3) hrow3 hsrc 3
        have G4 : TGrows χ3 w3 χ3 w4 := ⟨Ext.refl 0 χ3, hm4, hi4⟩
        have hV4 := hV3.step G3.inv G4
        have k33 : w3.cell? ⟨w.heap.size, 3, none⟩ = some (.slice (some ad) l3 c3) := by rw [cell?_blk hV3.atE]; rfl
        have k34 : w4.cell? ⟨w.heap.size, 3, none⟩ = some (.slice (some ad) l3 c3) := by rw [cell?_blk hV4.atE]; rfl
        have f34 : w4.frozen? ⟨w.heap.size, 3, none⟩ = false := by rw [frozen?_blk hV4.atE]; simp
        obtain ⟨e5, hV5⟩ := hV4.put3 (by omega) (some ⟨w2.heap.size, 0, none⟩) l3 l3
        have G5 := ((G2.trans G3).trans G4).setNew (Nat.le_refl _) hV4.nE (lt_of_blk hV4.atE) (.cells #[.int .u8 vc, .int .u32 vt, .bool vb, .slice (some ⟨w2.heap.size, 0, none⟩) l3 l3, .slice a4 l4 c4] 61 (0, 0))
        dsimp only at e5
        rw [e5] at hV5
        go_wp2_with (at_builtin; refine wpList_copy_run rfl (.tmp 14) (.tmp 16) 27 27 rfl (by go_simp) (by go_simp) hcp ?_)
        go_meet
        exact ⟨χ3, _, l3, G5, Nat.le_refl _, by omega, hrow3, hV5⟩
    case rest =>
      obtain ⟨χ1, ao, c, G1, hlc, hcc, hro, hV1⟩ := hcut
      have k4 : wc.cell? ⟨w.heap.size, 4, none⟩ = some (.slice a4 l4 c4) := by rw [cell?_blk hV1.atE]; rfl
      have hne4 := neq_nil undTrees a4 l4 c4 wc
      clear hV2 hE2 hE0 hR2 hne k3 hg0 hg1 G2 hGG
      go_upto_if 22 with fail
      go_cut [] (fun wx => ∃ (χ2 : Chi) (a4' : Option Addr) (c4' : Nat), TGrows χ w χ2 wx ∧ RowOK χ2 χ2.F oct ao c ∧ l4 ≤ c4' ∧ c4' ≤ CB ∧ RowOK χ2 χ2.F treeC a4' c4' ∧ OwnV χ2 wx w.heap.size (w.heap.size + 1) ⟨vc, vt, vb, ao, l3, c, a4', l4, c4'⟩)
      case first =>
        have hr4 := hct.r4
        have hl44 := hct.n.l4
        dsimp only at hr4 hl44
        cases a4 with
        | none =>
          obtain rfl : c4 = 0 := hr4
          obtain rfl : l4 = 0 := by omega
          go_wp2_with fail
          go_meet
          exact ⟨χ1, none, 0, G1, hro, Nat.le_refl _, by unfold CB; omega, rfl, hV1⟩
        | some ad =>
          obtain ⟨w3, χ3, hmk, G3, hrow3, hA3⟩ := make_row G1.inv undTrees infoTree' (l := l4) (cts := treeC) (by decide) (by decide) (by omega) (by omega)
          have hV3 := hV1.step G1.inv G3
          have k44 : w3.cell? ⟨w.heap.size, 4, none⟩ = some (.slice (some ad) l4 c4) := by rw [cell?_blk hV3.atE]; rfl
          have hro3 : RowOK χ3 χ3.F oct ao c := RowOK.ext G3.ext G3.ext.F G1.inv.sub hro
          go_wp2_with fail
          go_loopg [30] l4 (fun k q wr => ∃ (i : Nat) (χr : Chi), i + k = l4 ∧ q = .int .i64 (i : Int) ∧ TGrows χ w χr wr ∧ RowOK χr χr.F oct ao c ∧ RowOK χr χr.F treeC (some ⟨wc.heap.size, 0, none⟩) l4 ∧ OwnV χr wr w.heap.size (w.heap.size + 1) ⟨vc, vt, vb, ao, l3, c, some ad, l4, c4⟩)
          case atStart => exact ⟨0, χ3, by simp, rfl, G1.trans G3, hro3, hrow3, hV3⟩
          case round =>
            clear k4 k44 hV1 hV3 hmk hrow3 hro3 hro G3
            obtain ⟨i, χr, hik, rfl, Gr, hror, hrowr, hVr⟩ := hrel
            cases gk with
            | zero =>
              have hil : decide (i < l4) = false := by simp; omega
              obtain rfl : i = l4 := by omega
              have k45 : wr.cell? ⟨w.heap.size, 4, none⟩ = some (.slice (some ad) i c4) := by rw [cell?_blk hVr.atE]; rfl
              have f45 : wr.frozen? ⟨w.heap.size, 4, none⟩ = false := by rw [frozen?_blk hVr.atE]; simp
              obtain ⟨e5, hV5⟩ := hVr.put4 (by omega) (some ⟨wc.heap.size, 0, none⟩) i i
              have G5 := Gr.setNew (Nat.le_refl _) hVr.nE (lt_of_blk hVr.atE) (.cells #[.int .u8 vc, .int .u32 vt, .bool vb, .slice ao l3 c, .slice (some ⟨wc.heap.size, 0, none⟩) i i] 61 (0, 0))
              dsimp only at e5
              rw [e5] at hV5
              go_wp2_with fail
              go_meet
              exact ⟨χr, _, i, G5, hror, Nat.le_refl _, by omega, hrowr, hV5⟩
            | succ k' =>
              have hlt : i < l4 := by omega
              have hil : decide (i < l4) = true := by simp; omega
              have hi00 : (0 : Int) ≤ (i : Int) := by omega
              have hi11 : (i : Int) < (l4 : Int) := by omega
              have hi40 : (i : Int) ≤ 1099511627776 := by omega
              obtain ⟨p, hp0, _⟩ := part_read hi0 hct.n (i := i) hlt
              have hpc := hp0.typedC hi0 hct.n.r4 hlt
              have hGr := G.trans Gr
              have hp := hp0.same (χ' := χr) (w' := wr) hGr.ext.A (fun b hb => hGr.mem.old b (hi0.lt hb) (hF0 b))
              have hsp : SmV 2000 w0 (treeD k) (fun i => p.v[i]?) 0 := by
                obtain ⟨b, o, e, hA, hc⟩ := hp0
                refine SmV.congr (treeD k) (fun j hj => ?_) (hkid b o e i hlt)
                rw [treeD_size] at hj ⊢
                rw [Nat.zero_add]
                exact hc j hj
              obtain ⟨b, o, e4, hA, q0, q1, q2, q3, q4⟩ := hp.cells
              cases e4
              have hbw : b < wr.heap.size := Gr.inv.lt hA
              have hgx := grown_alloc wr (.cells #[.int .u8 p.vc, .int .u32 p.vt, .bool p.vb, .slice p.a3 p.l3 p.c3, .slice p.a4 p.l4 p.c4] 61)
              have Gx := TGrows.plain Gr.inv hgx
              have hih := ih hpc hsp (hGr.trans Gx)
              have hVx := hVr.step Gr.inv Gx
              unfold TN.agg at hih
              clear hp hp0 hsp hpc hkid
              go_wp2_with fail
              refine hih.mono ?_
              clear hih q0 q1 q2 q3 q4
              rintro e w5 ⟨χ5, t5, rfl, hT5, G5⟩
              have G6 := (Gr.trans Gx).trans G5
              have hV5 := hVx.step Gx.inv G5
              have hro5 : RowOK χ5 χ5.F oct ao c := RowOK.ext G5.ext G5.ext.F Gx.inv.sub hror
              have hrw5 : RowOK χ5 χ5.F treeC (some ⟨wc.heap.size, 0, none⟩) l4 := RowOK.ext G5.ext G5.ext.F Gx.inv.sub hrowr
              obtain ⟨w6, hst, hi6, hm6⟩ := write_row G5.inv (k := i) hrw5 (n := 1) (by omega) (by decide) (by rfl) hT5.per
              obtain ⟨bL, oL, eL, _, hbL, hrL⟩ := frow_read G5.inv (l := l4) (i := i) hrw5 (Nat.le_refl _) hlt (by decide)
              cases eL
              have hz : ∀ q, 0 + i * treeC.length + q = i * 5 + q := fun q => by show 0 + i * 5 + q = i * 5 + q; omega
              have hz0 : 0 + i * treeC.length = i * 5 := by show 0 + i * 5 = i * 5; omega
              obtain ⟨_, f0, v0, x0, _⟩ := hrL 0 _ rfl
              obtain ⟨_, f1, v1, x1, _⟩ := hrL 1 _ rfl
              obtain ⟨_, f2, v2, x2, _⟩ := hrL 2 _ rfl
              obtain ⟨_, f3, v3, x3, _⟩ := hrL 3 _ rfl
              obtain ⟨_, f4, v4, x4, _⟩ := hrL 4 _ rfl
              rw [hz] at f0 f1 f2 f3 f4 x0 x1 x2 x3 x4
              rw [Nat.add_zero] at f0 x0
              rw [hz0] at hst
              have hw6 : w6 = ((((w5.setCell ⟨wc.heap.size, i * 5, none⟩ (.int .u8 t5.vc)).setCell ⟨wc.heap.size, i * 5 + 1, none⟩ (.int .u32 t5.vt)).setCell ⟨wc.heap.size, i * 5 + 2, none⟩ (.bool t5.vb)).setCell ⟨wc.heap.size, i * 5 + 3, none⟩ (.slice t5.a3 t5.l3 t5.c3)).setCell ⟨wc.heap.size, i * 5 + 4, none⟩ (.slice t5.a4 t5.l4 t5.c4) := by
                simp [TN.v, storeCells, go_sem, x0, x1, x2, x3, x4, f0, f1, f2, f3, f4] at hst
                exact hst.symm
              have G7 : TGrows χ5 w5 χ5 w6 := ⟨Ext.refl 0 χ5, hm6, hi6⟩
              have hV6 := hV5.step G5.inv G7
              clear hst hz hz0 hrL
              unfold TN.agg
              go_wp2_with fail
              rw [← hw6]
              go_roundg k'
              case measure => exact Nat.lt_succ_self k'
              exact ⟨i + 1, χ5, by omega, by go_num, G6.trans G7, hro5, hrw5, hV6⟩
      case rest =>
        obtain ⟨χ2, a4', c4', G2, hro2, hl44, hc44, hr44, hV2⟩ := hcut
        have hE := hV2.atE
        have hR := hV2.atR
        have hER : w.heap.size ≠ w.heap.size + 1 := by omega
        have f : ∀ i, wc.frozen? ⟨w.heap.size + 1, i, none⟩ = false := fun i => by rw [frozen?_blk hR]; simp
        have f0 := f 0
        have f1 := f 1
        have f2 := f 2
        have f3 := f 3
        have f4 := f 4
        have k0 : wc.cell? ⟨w.heap.size, 0, none⟩ = some (.int .u8 vc) := by rw [cell?_blk hE]; rfl
        have k1 : wc.cell? ⟨w.heap.size, 1, none⟩ = some (.int .u32 vt) := by rw [cell?_blk hE]; rfl
        have k2 : wc.cell? ⟨w.heap.size, 2, none⟩ = some (.bool vb) := by rw [cell?_blk hE]; rfl
        have k3 : wc.cell? ⟨w.heap.size, 3, none⟩ = some (.slice ao l3 c) := by rw [cell?_blk hE]; rfl
        have k4 : wc.cell? ⟨w.heap.size, 4, none⟩ = some (.slice a4' l4 c4') := by rw [cell?_blk hE]; rfl
        have m0 : wc.cell? ⟨w.heap.size + 1, 0, none⟩ = some (.int .u8 0) := by rw [cell?_blk hR]; rfl
        have m1 : wc.cell? ⟨w.heap.size + 1, 1, none⟩ = some (.int .u32 0) := by rw [cell?_blk hR]; rfl
        have m2 : wc.cell? ⟨w.heap.size + 1, 2, none⟩ = some (.bool false) := by rw [cell?_blk hR]; rfl
        have m3 : wc.cell? ⟨w.heap.size + 1, 3, none⟩ = some (.slice none 0 0) := by rw [cell?_blk hR]; rfl
        have m4 : wc.cell? ⟨w.heap.size + 1, 4, none⟩ = some (.slice none 0 0) := by rw [cell?_blk hR]; rfl
        have hltR := lt_of_blk hR
        have hset := set5 (a0 := .int .u8 vc) (a1 := .int .u32 vt) (a2 := .bool vb) (a3 := .slice ao l3 c) (a4 := .slice a4' l4 c4') hR
        have hG := G2.setNew (g := w.heap.size + 1) (by omega) hV2.nR hltR (.cells #[.int .u8 vc, .int .u32 vt, .bool vb, .slice ao l3 c, .slice a4' l4 c4'] 61 (0, 0))
        have hRf : (setBlk wc (w.heap.size + 1) (.cells #[.int .u8 vc, .int .u32 vt, .bool vb, .slice ao l3 c, .slice a4' l4 c4'] 61 (0, 0))).heap[w.heap.size + 1]? = some (.cells #[.int .u8 vc, .int .u32 vt, .bool vb, .slice ao l3 c, .slice a4' l4 c4'] 61 (0, 0)) := by rw [setBlk_get hltR, if_pos rfl]
        rw [← hset] at hG hRf
        have hs := Lib.hid hset
        clear hset hR f
        have hT : TF χ2 ⟨vc, vt, vb, ao, l3, c, a4', l4, c4'⟩ := ⟨hct.n.c0, hct.n.t0, ⟨hlc, by show l3 ≤ LB; unfold LB; omega, hcc⟩, hro2, ⟨hl44, by show l4 ≤ LB; unfold LB; omega, hc44⟩, hr44⟩
        go_wp2
        generalize ((((wc.setCell ⟨w.heap.size + 1, 0, none⟩ (.int .u8 vc)).setCell ⟨w.heap.size + 1, 1, none⟩ (.int .u32 vt)).setCell ⟨w.heap.size + 1, 2, none⟩ (.bool vb)).setCell ⟨w.heap.size + 1, 3, none⟩ (.slice ao l3 c)).setCell ⟨w.heap.size + 1, 4, none⟩ (.slice a4' l4 c4') = wf at *
        have y0 : wf.cell? ⟨w.heap.size + 1, 0, none⟩ = some (.int .u8 vc) := by rw [cell?_blk hRf]; rfl
        have y1 : wf.cell? ⟨w.heap.size + 1, 1, none⟩ = some (.int .u32 vt) := by rw [cell?_blk hRf]; rfl
        have y2 : wf.cell? ⟨w.heap.size + 1, 2, none⟩ = some (.bool vb) := by rw [cell?_blk hRf]; rfl
        have y3 : wf.cell? ⟨w.heap.size + 1, 3, none⟩ = some (.slice ao l3 c) := by rw [cell?_blk hRf]; rfl
        have y4 : wf.cell? ⟨w.heap.size + 1, 4, none⟩ = some (.slice a4' l4 c4') := by rw [cell?_blk hRf]; rfl
        clear m0 m1 m2 m3 m4 f0 f1 f2 f3 f4 k0 k1 k2 k3 k4
        exact bodyPost_ret (v := .agg #[.int .u8 vc, .int .u32 vt, .bool vb, .slice ao l3 c, .slice a4' l4 c4']) (by simp [results, Tryz.results132, go_sem, y0, y1, y2, y3, y4]) rfl ⟨χ2, ⟨vc, vt, vb, ao, l3, c, a4', l4, c4'⟩, rfl, hT, hG⟩

end Go.Sx

namespace Go.Sx
open Go Go.Proofs

theorem find1_cal : callable Tryz.prog 131 = true := by kernel_rfl

set_option maxRecDepth 100000 in
set_option maxHeartbeats 1600000 in
theorem find1_any {w : World} {p : TN} {C1 C2 : Nat} {c1 c2 : Int} (h1 : w.heap[C1]? = some (.cells #[.int .u8 c1] 5 (0, 0))) (h2 : w.heap[C2]? = some (.cells #[.int .u32 c2] 24 (0, 0))) :
    Calls Tryz.prog 131 #[p.agg, .pointer (some ⟨C1, 0, none⟩), .pointer (some ⟨C2, 0, none⟩)] w fun e w' => (∃ b, e = .returned (.bool b) ∧ (b = false → True)) ∧ w.grownBy w' none := by
  have hg0 := grown_alloc w (.cells #[.int .u8 p.vc, .int .u32 p.vt, .bool p.vb, .slice p.a3 p.l3 p.c3, .slice p.a4 p.l4 p.c4] 61)
  have hE : (w.alloc (.cells #[.int .u8 p.vc, .int .u32 p.vt, .bool p.vb, .slice p.a3 p.l3 p.c3, .slice p.a4 p.l4 p.c4] 61)).heap[w.heap.size]? = some (.cells #[.int .u8 p.vc, .int .u32 p.vt, .bool p.vb, .slice p.a3 p.l3 p.c3, .slice p.a4 p.l4 p.c4] 61 (0, 0)) := by rw [alloc_get, if_pos rfl]
  have h1' := (hg0.block _ (lt_of_blk h1) (by simp)).trans h1
  have h2' := (hg0.block _ (lt_of_blk h2) (by simp)).trans h2
  unfold TN.agg
  go_enter Tryz.func131, Tryz.ntmps131
  go_upto_region 1 with fail
  generalize w.alloc (.cells #[.int .u8 p.vc, .int .u32 p.vt, .bool p.vb, .slice p.a3 p.l3 p.c3, .slice p.a4 p.l4 p.c4] 61) = w1 at *
  have k0 : w1.cell? ⟨w.heap.size, 0, none⟩ = some (.int .u8 p.vc) := by rw [cell?_blk hE]; rfl
  have k1 : w1.cell? ⟨w.heap.size, 1, none⟩ = some (.int .u32 p.vt) := by rw [cell?_blk hE]; rfl
  have m1 : w1.cell? ⟨C1, 0, none⟩ = some (.int .u8 c1) := by rw [cell?_blk h1']; rfl
  have m2 : w1.cell? ⟨C2, 0, none⟩ = some (.int .u32 c2) := by rw [cell?_blk h2']; rfl
  by_cases hv : p.vc = c1
  · have hb : (p.vc == c1) = true := by simpa using hv
    go_wp2
    exact bodyPost_ret (v := .bool (p.vt == c2)) (by simp [results, Tryz.results131, go_sem]) rfl ⟨⟨_, rfl, fun _ => trivial⟩, hg0⟩
  · have hb : (p.vc == c1) = false := by simpa using hv
    go_wp2
    exact bodyPost_ret (v := .bool false) (by simp [results, Tryz.results131, go_sem]) rfl ⟨⟨_, rfl, fun _ => trivial⟩, hg0⟩

def FindP (χ : Chi) (w : World) (e : Ending) (w' : World) : Prop := ∃ (χ' : Chi) (t' : TN) (b : Bool), e = .returned (.tuple #[t'.agg, .bool b]) ∧ TF χ' t' ∧ TGrows χ w χ' w'

set_option maxRecDepth 100000 in
set_option maxHeartbeats 3200000 in
theorem find_any {χ : Chi} {w : World} {t : TN} {c1 c2 : Int} (hi : Inv Tryz.prog χ w) (hF : ∀ b, ¬ χ.F b) (hct : TypedC χ t) {K : Nat} (hsm : SmV 2000 w (treeD (K + 1)) (fun i => t.v[i]?) 0) : Calls Tryz.prog 68 #[t.agg, .int .u8 c1, .int .u32 c2] w (FindP χ w) := by
  have hmf : ∀ (fn : Fn) (first cap : Array Value) (w : World), (Instr.makeFunc fn first cap).run Tryz.prog w = .ok (.func fn first cap) w := fun _ _ _ _ => rfl
  have hl4 : t.l4 ≤ 2000 := (hsm.2.2.2.2 t.a4 t.l4 t.c4 rfl).1
  have hkid := (hsm.2.2.2.2 t.a4 t.l4 t.c4 rfl).2
  clear hsm
  have g0 := grown_alloc w (.cells #[.int .u8 t.vc, .int .u32 t.vt, .bool t.vb, .slice t.a3 t.l3 t.c3, .slice t.a4 t.l4 t.c4] 61)
  have hE0 : (w.alloc (.cells #[.int .u8 t.vc, .int .u32 t.vt, .bool t.vb, .slice t.a3 t.l3 t.c3, .slice t.a4 t.l4 t.c4] 61)).heap[w.heap.size]? = some (.cells #[.int .u8 t.vc, .int .u32 t.vt, .bool t.vb, .slice t.a3 t.l3 t.c3, .slice t.a4 t.l4 t.c4] 61 (0, 0)) := by rw [alloc_get, if_pos rfl]
  have s0 := alloc_size w (.cells #[.int .u8 t.vc, .int .u32 t.vt, .bool t.vb, .slice t.a3 t.l3 t.c3, .slice t.a4 t.l4 t.c4] 61)
  unfold TN.agg
  obtain ⟨vc, vt, vb, a3, l3, c3, a4, l4, c4⟩ := t
  dsimp only at *
  go_enter Tryz.func68, Tryz.ntmps68
  go_upto_region 1 with fail
  generalize w.alloc (.cells #[.int .u8 vc, .int .u32 vt, .bool vb, .slice a3 l3 c3, .slice a4 l4 c4] 61) = w1 at *
  have g1 := grown_alloc w1 (.cells #[.int .u8 c1] 5)
  have hA2 : (w1.alloc (.cells #[.int .u8 c1] 5)).heap[w1.heap.size]? = some (.cells #[.int .u8 c1] 5 (0, 0)) := by rw [alloc_get, if_pos rfl]
  have s1 := alloc_size w1 (.cells #[.int .u8 c1] 5)
  generalize w1.alloc (.cells #[.int .u8 c1] 5) = w2 at *
  have g2 := grown_alloc w2 (.cells #[.int .u32 c2] 24)
  have hB3 : (w2.alloc (.cells #[.int .u32 c2] 24)).heap[w2.heap.size]? = some (.cells #[.int .u32 c2] 24 (0, 0)) := by rw [alloc_get, if_pos rfl]
  have s2 := alloc_size w2 (.cells #[.int .u32 c2] 24)
  generalize w2.alloc (.cells #[.int .u32 c2] 24) = w3 at *
  have g3 := grown_alloc w3 (.cells #[.int .u8 0, .int .u32 0, .bool false, .slice none 0 0, .slice none 0 0] 61)
  have hR4 : (w3.alloc (.cells #[.int .u8 0, .int .u32 0, .bool false, .slice none 0 0, .slice none 0 0] 61)).heap[w3.heap.size]? = some (.cells #[.int .u8 0, .int .u32 0, .bool false, .slice none 0 0, .slice none 0 0] 61 (0, 0)) := by rw [alloc_get, if_pos rfl]
  rw [s2, s1, s0] at hR4
  rw [s1, s0] at hB3
  rw [s0] at hA2
  have hE4 := (g3.block _ (by omega) (by simp)).trans ((g2.block _ (by omega) (by simp)).trans ((g1.block _ (by omega) (by simp)).trans hE0))
  have hA4 := (g3.block _ (by omega) (by simp)).trans ((g2.block _ (by omega) (by simp)).trans hA2)
  have hB4 := (g3.block _ (by omega) (by simp)).trans hB3
  generalize w3.alloc (.cells #[.int .u8 0, .int .u32 0, .bool false, .slice none 0 0, .slice none 0 0] 61) = w4 at *
  have gg := grown_trans (grown_trans (grown_trans g0 g1) g2) g3
  have G4 := TGrows.plain hi gg
  have hps : ∀ i, i < l4 → ∃ p, PartAt χ w ⟨vc, vt, vb, a3, l3, c3, a4, l4, c4⟩ i p := fun i h => (part_read hi hct.n h).imp fun _ h => h.1
  have hk4 : ∀ b, χ.A b → w4.heap[b]? = w.heap[b]? := fun b hb => gg.block b (hi.lt hb) (by simp)
  have hix := index_any (t := ⟨vc, vt, vb, a3, l3, c3, a4, l4, c4⟩) (f := 131) (caps := #[.pointer (some ⟨w.heap.size + 1, 0, none⟩), .pointer (some ⟨w.heap.size + 1 + 1, 0, none⟩)]) (Q := fun _ => True) (ps := fun i => if h : i < l4 then (hps i h).choose else ⟨vc, vt, vb, a3, l3, c3, a4, l4, c4⟩) G4.inv (by show l4 ≤ 1099511627776; omega)
    (fun i h => by
      simp only [show i < l4 from h, dif_pos]
      exact (hps i h).choose_spec.same (fun _ h => h) hk4) find1_cal (fun w' hg i h => find1_any ((hg.block _ (lt_of_blk hA4) (by simp)).trans hA4) ((hg.block _ (lt_of_blk hB4) (by simp)).trans hB4))
  have k4 : w4.cell? ⟨w.heap.size, 4, none⟩ = some (.slice a4 l4 c4) := by rw [cell?_blk hE4]; rfl
  dsimp only at hix
  go_wp2_with fail
  refine hix.mono ?_
  clear hix k4
  rintro e w5 ⟨r, r0, r1, rfl, hg5, _⟩
  have gw := grown_trans gg hg5
  have hE5 := (hg5.block _ (lt_of_blk hE4) (by simp)).trans hE4
  have hR5 := (hg5.block _ (lt_of_blk hR4) (by simp)).trans hR4
  have fin : ∀ {χ6 : Chi} {w6 : World} {t6 : TN} {b : Bool} {tm : Array Value}, TGrows χ w χ6 w6 → TF χ6 t6 → w6.heap[w.heap.size + 1 + 1 + 1]? = some (.cells #[.int .u8 0, .int .u32 0, .bool false, .slice none 0 0, .slice none 0 0] 61 (0, 0)) → ¬ χ6.A (w.heap.size + 1 + 1 + 1) → tm[6]? = some (.pointer (some ⟨w.heap.size + 1 + 1 + 1, 0, none⟩)) → tm[7]? = some (.bool b) →
      bodyPost Tryz.prog Tryz.f68 (FindP χ w) Exit.ret { tmps := tm, defers := [] } (((((w6.setCell ⟨w.heap.size + 1 + 1 + 1, 0, none⟩ (.int .u8 t6.vc)).setCell ⟨w.heap.size + 1 + 1 + 1, 1, none⟩ (.int .u32 t6.vt)).setCell ⟨w.heap.size + 1 + 1 + 1, 2, none⟩ (.bool t6.vb)).setCell ⟨w.heap.size + 1 + 1 + 1, 3, none⟩ (.slice t6.a3 t6.l3 t6.c3)).setCell ⟨w.heap.size + 1 + 1 + 1, 4, none⟩ (.slice t6.a4 t6.l4 t6.c4)) := by
    intro χ6 w6 t6 b tm hG hT hR hn ht6 ht7
    rw [set5 hR]
    have hlt := lt_of_blk hR
    have hRf : (setBlk w6 (w.heap.size + 1 + 1 + 1) (.cells #[.int .u8 t6.vc, .int .u32 t6.vt, .bool t6.vb, .slice t6.a3 t6.l3 t6.c3, .slice t6.a4 t6.l4 t6.c4] 61 (0, 0))).heap[w.heap.size + 1 + 1 + 1]? = some (.cells #[.int .u8 t6.vc, .int .u32 t6.vt, .bool t6.vb, .slice t6.a3 t6.l3 t6.c3, .slice t6.a4 t6.l4 t6.c4] 61 (0, 0)) := by rw [setBlk_get hlt, if_pos rfl]
    have hG2 := hG.setNew (g := w.heap.size + 1 + 1 + 1) (by omega) hn hlt (.cells #[.int .u8 t6.vc, .int .u32 t6.vt, .bool t6.vb, .slice t6.a3 t6.l3 t6.c3, .slice t6.a4 t6.l4 t6.c4] 61 (0, 0))
    generalize setBlk w6 (w.heap.size + 1 + 1 + 1) (.cells #[.int .u8 t6.vc, .int .u32 t6.vt, .bool t6.vb, .slice t6.a3 t6.l3 t6.c3, .slice t6.a4 t6.l4 t6.c4] 61 (0, 0)) = wf at *
    obtain ⟨y0, y1, y2, y3, y4⟩ := TN.cells5 hRf
    refine bodyPost_ret (v := .tuple #[t6.agg, .bool b]) ?_ rfl ⟨χ6, t6, b, rfl, hT, hG2⟩
    simp [results, Tryz.results68, go_sem, y0, y1, y2, y3, y4, ht6, ht7, TN.agg]
  have hRn : ¬ χ.A (w.heap.size + 1 + 1 + 1) := fun h => by have := hi.lt h; omega
  by_cases hr : r < 0
  · have hrb : decide (r < 0) = true := by simpa using hr
    have f : ∀ i, w5.frozen? ⟨w.heap.size + 1 + 1 + 1, i, none⟩ = false := fun i => by rw [frozen?_blk hR5]; simp
    have f0 := f 0
    have f1 := f 1
    have f2 := f 2
    have f3 := f 3
    have f4 := f 4
    obtain ⟨m0, m1, m2, m3, m4⟩ := TN.cells5 (t := ⟨0, 0, false, none, 0, 0, none, 0, 0⟩) hR5
    dsimp only at m0 m1 m2 m3 m4
    have hs := Lib.hid hR5
    clear f hR5 hE5 hps hkid hct
    go_wp2_with fail
    exact fin (t6 := ⟨0, 0, false, none, 0, 0, none, 0, 0⟩) (TGrows.plain hi gw) ⟨⟨Int.le_refl _, by show (0 : Int) ≤ 255; omega⟩, ⟨Int.le_refl _, by show (0 : Int) ≤ 4294967295; omega⟩, ⟨Nat.le_refl _, by show 0 ≤ LB; unfold LB; omega, by show 0 ≤ CB; unfold CB; omega⟩, rfl, ⟨Nat.le_refl _, by show 0 ≤ LB; unfold LB; omega, by show 0 ≤ CB; unfold CB; omega⟩, rfl⟩ hs.out hRn rfl rfl
  · have hrb : decide (r < 0) = false := by simpa using hr
    obtain ⟨i, rfl⟩ := Int.eq_ofNat_of_zero_le (show 0 ≤ r by omega)
    have hlt : i < l4 := by omega
    have hi00 : (0 : Int) ≤ (i : Int) := by omega
    have hi11 : (i : Int) < (l4 : Int) := by omega
    have hi40 : (i : Int) ≤ 1099511627776 := by omega
    obtain ⟨p, hp0⟩ := hps i hlt
    have hpc := hp0.typedC hi hct.n.r4 hlt
    have hp := hp0.same (χ' := χ) (w' := w5) (fun _ h => h) (fun b hb => gw.block b (hi.lt hb) (by simp))
    have hsp : SmV 2000 w (treeD K) (fun i => p.v[i]?) 0 := by
      obtain ⟨b, o, e, hA, hc⟩ := hp0
      refine SmV.congr (treeD K) (fun j hj => ?_) (hkid b o e i hlt)
      rw [treeD_size] at hj ⊢
      rw [Nat.zero_add]
      exact hc j hj
    obtain ⟨b, o, e4, hA, q0, q1, q2, q3, q4⟩ := hp.cells
    dsimp only at e4
    subst e4
    have hbw : b < w5.heap.size := Nat.lt_of_lt_of_le (hi.lt hA) gw.size
    have hih := owned_any hi hF K hpc hsp (TGrows.plain hi gw)
    have k4 : w5.cell? ⟨w.heap.size, 4, none⟩ = some (.slice (some ⟨b, o, none⟩) l4 c4) := by rw [cell?_blk hE5]; rfl
    unfold TN.agg at hih
    clear hps hkid hp hp0 hsp hpc hE5
    go_wp2_with fail
    refine hih.mono ?_
    clear hih q0 q1 q2 q3 q4 k4
    rintro e w6 ⟨χ6, t6, rfl, hT6, G6⟩
    obtain ⟨hR6, _⟩ := G6.keep hR5 (hF _)
    have hRn6 : ¬ χ6.A (w.heap.size + 1 + 1 + 1) := fun h => by
      rcases G6.mem.An _ h with h1 | h1
      · exact hRn h1
      · have := lt_of_blk hR5; omega
    have f : ∀ i, w6.frozen? ⟨w.heap.size + 1 + 1 + 1, i, none⟩ = false := fun i => by rw [frozen?_blk hR6]; simp
    have f0 := f 0
    have f1 := f 1
    have f2 := f 2
    have f3 := f 3
    have f4 := f 4
    obtain ⟨m0, m1, m2, m3, m4⟩ := TN.cells5 (t := ⟨0, 0, false, none, 0, 0, none, 0, 0⟩) hR6
    dsimp only at m0 m1 m2 m3 m4
    have hs := Lib.hid hR6
    clear f hR6 hR5
    unfold TN.agg
    go_wp2_with fail
    exact fin ((TGrows.plain hi gw).trans G6) hT6 hs.out hRn6 rfl rfl

end Go.Sx

namespace Go.Sx
open Go Go.Proofs

theorem TypedN.re {χ χ' : Chi} {t : TN} (hA : ∀ b, χ.A b → χ'.A b) (hκ : ∀ b, χ.A b → ∀ i, χ'.κ b i = χ.κ b i) (h : TypedN χ t) : TypedN χ' t := ⟨h.c0, h.t0, h.l3, RowOK.re hA hκ h.r3, h.l4, RowOK.re hA hκ h.r4⟩
theorem TypedC.re {χ χ' : Chi} {t : TN} (hA : ∀ b, χ.A b → χ'.A b) (hκ : ∀ b, χ.A b → ∀ i, χ'.κ b i = χ.κ b i) (h : TypedC χ t) : TypedC χ' t := ⟨h.n.re hA hκ, RowOK.re hA hκ h.r3, RowOK.re hA hκ h.r4⟩

theorem tree_cells {χ : Chi} {m k : Nat} {cs : Array Value} {rc : List CT} (hm : m ≤ LB) (ht : TypedBy Tryz.prog χ χ.A cs (kkOf (((treeD k).cts ++ rc).map (CT.bd m)))) : ∃ t : TN, TypedC χ t ∧ ∀ i, i < 5 → cs[i]? = t.v[i]? := by
  have h := TypedBy.of_bd hm ht
  rw [treeD_cts] at h
  have h0 := h 0
  have h1 := h 1
  have h2 := h 2
  have h3 := h 3
  have h4 := h 4
  have g : ∀ {i : Nat} {ct : CT}, (kkOf (treeC ++ rc)) i = some ct → (match cs[i]?, (kkOf (treeC ++ rc)) i with | some v, some ct => CellOK Tryz.prog χ χ.A ct v | .none, .none => True | _, _ => False) → ∃ v, cs[i]? = some v ∧ CellOK Tryz.prog χ χ.A ct v := by
    intro i ct e hh
    rw [e] at hh
    cases hv : cs[i]? with
    | none => rw [hv] at hh; exact hh.elim
    | some v => rw [hv] at hh; exact ⟨v, rfl, hh⟩
  obtain ⟨v0, e0, n0, rfl, p00, p01⟩ := g (i := 0) rfl h0
  obtain ⟨v1, e1, n1, rfl, p10, p11⟩ := g (i := 1) rfl h1
  obtain ⟨v2, e2, n2, rfl⟩ := g (i := 2) rfl h2
  obtain ⟨v3, e3, a3, l3, c3, rfl, p30, p31, p32, p33⟩ := g (i := 3) rfl h3
  obtain ⟨v4, e4, a4, l4, c4, rfl, p40, p41, p42, p43⟩ := g (i := 4) rfl h4
  rw [tauO] at p33
  rw [tauT] at p43
  refine ⟨⟨n0, n1, n2, a3, l3, c3, a4, l4, c4⟩, ⟨⟨⟨p00, p01⟩, ⟨p10, p11⟩, ⟨p30, p31, p32⟩, row_short p33 p30, ⟨p40, p41, p42⟩, row_short p43 p40⟩, p33, p43⟩, fun i hi => ?_⟩
  match i, hi with
  | 0, _ => exact e0
  | 1, _ => exact e1
  | 2, _ => exact e2
  | 3, _ => exact e3
  | 4, _ => exact e4

theorem treeP_small {χ : Chi} {w : World} : ∀ {d k n s : Nat} {t : TN}, TreeP χ w d n s t → SmV 2000 w (treeD k) (fun i => t.v[i]?) 0 → s ≤ 2000 * n
  | 0, _, _, _, _, h, _ => h.elim
  | _ + 1, 0, _, _, _, _, h => h.elim
  | d + 1, k + 1, n, s, t, h, hs => by
    obtain ⟨_, ns, ss, ps, h1, h2, h3⟩ := h
    have hl3 : t.l3 ≤ 2000 := (hs.2.2.2.1 t.a3 t.l3 t.c3 rfl).1
    have hkid := (hs.2.2.2.2 t.a4 t.l4 t.c4 rfl).2
    have hsum := sumN_le (f := ss) (g := ns) (K := 2000) (n := t.l4) (fun i hi => by
      refine treeP_small (k := k) (h3 i hi).2 ?_
      obtain ⟨b, o, e, hA, hc⟩ := (h3 i hi).1
      refine SmV.congr (treeD k) (fun j hj => ?_) (hkid b o e i hi)
      rw [treeD_size] at hj ⊢
      rw [Nat.zero_add]
      exact hc j hj)
    omega

abbrev glT : List (Nat × List CT) := [(2, [.any]), (3, [.any]), (0, tabC)]

theorem glT_tab {χ : Chi} (h : GlOK χ glT) : GlOK χ [(0, tabC)] := fun p hp => h p (by
  rw [List.mem_singleton] at hp
  rw [hp]
  exact .tail _ (.tail _ (.head _)))

set_option maxRecDepth 100000 in
set_option maxHeartbeats 1600000 in
theorem hcall77 {r : D} : CallOK Tryz.prog 3 9 2000 77 (.seq (treeD KT) r) glT := by
  intro w χ b cs E hinv hA hc ht hgw hga hsm
  obtain ⟨t, hct, hcs⟩ := tree_cells (by unfold LB; omega) ht
  have hs1 : SmV 2000 w (treeD KT) (fun i => t.v[i]?) 0 := SmV.congr (treeD KT) (fun j hj => by
    rw [treeD_size] at hj
    rw [Nat.zero_add]
    exact hcs j hj) hsm.1
  have hna : ∀ p ∈ glT, ¬ χ.A p.1 := fun p hp => (hga p hp).1
  have hd : glDistinct glT = true := rfl
  have hgl := GlOK.withGl (χ := χ) hd
  have hig := Inv.withGl hinv.1 hgw hd hna
  have hx := Chi.withGl_ext (χ := χ) hna
  have htx := text_any hig (glT_tab hgl) (hct.n.re hx.A hx.κ) (fun n s h => treeP_small h hs1)
  have k0 : w.cell? ⟨b, 0, none⟩ = some (.int .u8 t.vc) := by rw [cell?_blk hc]; exact hcs 0 (by omega)
  have k1 : w.cell? ⟨b, 1, none⟩ = some (.int .u32 t.vt) := by rw [cell?_blk hc]; exact hcs 1 (by omega)
  have k2 : w.cell? ⟨b, 2, none⟩ = some (.bool t.vb) := by rw [cell?_blk hc]; exact hcs 2 (by omega)
  have k3 : w.cell? ⟨b, 3, none⟩ = some (.slice t.a3 t.l3 t.c3) := by rw [cell?_blk hc]; exact hcs 3 (by omega)
  have k4 : w.cell? ⟨b, 4, none⟩ = some (.slice t.a4 t.l4 t.c4) := by rw [cell?_blk hc]; exact hcs 4 (by omega)
  unfold TN.agg at htx
  clear hs1 hsm hct hcs ht hgw hga
  go_enter Tryz.func77, Tryz.ntmps77
  go_wp2_with fail
  refine htx.mono ?_
  clear htx
  rintro e w2 ⟨⟨s, rfl⟩, hg2⟩
  go_wp2_with fail
  exact bodyPost_ret (v := .slice none 0 0) (by simp [results, Tryz.results77, go_sem]) rfl ⟨_, [], fun _ => Chi.none, rfl, hg2, .inl ⟨rfl, rfl⟩, Nat.zero_le _, fun _ => InvF.none _ _, fun _ _ h => h.elim, fun i c hc => by simp at hc, fun _ _ _ _ h => h.elim, fun lb l c h => (nomatch h)⟩

theorem step_call3 {P : Program} {ops : Array Oper} {o : Oper} {a : Act} {w : World} {K : Act → World → Prop} {Q : Exit → Act → World → Prop} {E : Prop} (hg : o.guard = none) (f : FuncId) (x y z : Operand) (ts : Array TypeId)
    (hop : o.op = .call { callee := .value (.func f), args := #[x, y, z], argTypes := ts }) (hcal : callable P f = true) {vx vy vz : Value} (hx : a.eval x = vx) (hy : a.eval y = vy) (hz : a.eval z = vz)
    {R : Ending → World → Prop} (hc : Calls P f #[vx, vy, vz] w R) (hR : ∀ e w', R e w' → (∃ v, e = .returned v ∧ K (a.put o.dst v) w') ∨ (∃ c, e = .panicked c ∧ Q (.panic c) a w')) :
    if Region.wanted o (yielded ops a.tmps) = true then Oper.wp P o a w K Q else E := by
  obtain ⟨fn, hh, hb, hname⟩ := callable_ok hcal
  obtain ⟨body, hb⟩ := Option.isSome_iff_exists.1 hb
  refine step_call hg f #[x, y, z] ts hop hh hb hname ?_ hR
  rw [show (#[x, y, z] : Array Operand).map a.eval = #[vx, vy, vz] by simp [hx, hy, hz]]
  exact hc

theorem find_cal : callable Tryz.prog 68 = true := by kernel_rfl

theorem callPost_tree {w w' : World} {χ0 χ' : Chi} (hF0 : ∀ b, ¬ χ0.F b) {t' : TN} (G : TGrows χ0 w χ' w') (hT : TF χ' t') {rb g k FE : Nat} (hrb : w'.heap[rb]? = some (.cells t'.v 61 (0, 0))) (hnA : ¬ χ'.A rb) (hge : w.heap.size ≤ rb) (hS : ∀ b o, ClosS Tryz.prog 3 9 ⟨g, b, o, treeD k⟩) :
    CallPost Tryz.prog 3 9 w (.returned (.slice (some ⟨w'.heap.size, 0, none⟩) 1 1)) (w'.alloc (.cells #[.func (.func g) #[] #[.pointer (some ⟨rb, 0, none⟩)]] FE)) := by
  have hty : TypedBy Tryz.prog χ' χ'.F t'.v (kkOf treeC) := by
    intro i
    rcases i with _ | _ | _ | _ | _ | i
    · exact ⟨t'.vc, rfl, hT.c0⟩
    · exact ⟨t'.vt, rfl, hT.t0⟩
    · exact ⟨t'.vb, rfl⟩
    · exact ⟨t'.a3, t'.l3, t'.c3, rfl, hT.l3.1, hT.l3.2.1, hT.l3.2.2, by rw [tauO]; exact hT.r3⟩
    · exact ⟨t'.a4, t'.l4, t'.c4, rfl, hT.l4.1, hT.l4.2.1, hT.l4.2.2, by rw [tauT]; exact hT.r4⟩
    · show match (none : Option Value), (none : Option CT) with | some v, some ct => CellOK Tryz.prog χ' χ'.F ct v | .none, .none => True | _, _ => False
      trivial
  obtain ⟨hi2, hx2⟩ := Inv.adoptF G.inv hnA (kkOf treeC) hrb hty
  have hg : w.grownBy w' none := grown_of_mem G.mem hF0
  have hrlt := lt_of_blk hrb
  refine ⟨_, [⟨g, rb, 0, treeD k⟩], (χ'.alloc rb true (kkOf treeC)).only.at0, rfl, grown_alloc' hg _, .inr ⟨w'.heap.size, 1, rfl, ?_, fun i c hi => ?_⟩, by show 1 ≤ 2; omega, ?_, ?_, ?_, Chi.at0_sep _, fun lb l c h => ?_⟩
  · show w'.heap.size < (w'.heap.push _).size
    simp
  · cases i with
    | zero =>
      simp only [List.getElem?_cons_zero, Option.some.injEq] at hi
      subst hi
      rw [cell?_blk (by rw [alloc_get, if_pos rfl])]
      rfl
    | succ i => simp at hi
  · intro i
    cases i with
    | zero =>
      refine hi2.only.same fun k hk => ?_
      have hlt : k < w'.heap.size := hi2.lt (hi2.sub k hk)
      rw [alloc_get, if_neg (by omega)]
    | succ i => exact InvF.none _ _
  · intro i b' hb'
    cases i with
    | zero =>
      rcases (show χ'.F b' ∨ (true = true ∧ b' = rb) from hb') with h | ⟨_, h⟩
      · rcases G.mem.Fn _ h with h1 | h1
        · exact (hF0 _ h1).elim
        · exact h1
      · omega
    | succ i => exact hb'.elim
  · intro i c hc
    cases i with
    | zero =>
      simp only [List.getElem?_cons_zero, Option.some.injEq] at hc
      subst hc
      refine ⟨⟨.inr ⟨rfl, rfl⟩, fun i hi => ?_⟩, hS rb 0⟩
      show (if rb = rb then (kkOf treeC) (0 + i) else _) = (treeD k).cts[i]?
      rw [if_pos rfl, treeD_cts, Nat.zero_add]
      rfl
    | succ i => simp at hc
  · cases h
    refine ⟨hg.size, fun i h => ?_⟩
    cases i with
    | zero => have := hi2.lt (hi2.sub _ h); omega
    | succ i => exact h

theorem SmV.drew {m : Nat} {w : World} : ∀ (d : D) {f : Nat → Option Value} {o : Nat}, SmV m w d f o → SmV m w.drew d f o := by
  intro d
  induction d with
  | seq a b iha ihb => intro f o h; simp only [SmV] at h ⊢; exact ⟨iha h.1, ihb h.2⟩
  | row t e ih =>
    intro f o h
    simp only [SmV] at h ⊢
    intro ao l c e1
    obtain ⟨h1, h2⟩ := h ao l c e1
    exact ⟨h1, fun b' o' e2 i hi => ih (h2 b' o' e2 i hi)⟩
  | str => intro f o h; simp only [SmV] at h ⊢; exact h
  | stop l => intro f o h; simp only [SmV] at h
  | _ => intro f o h; simp only [SmV]

theorem SmV.grow {χ : Chi} {m : Nat} {w w' : World} (hi : Inv Tryz.prog χ w) (hw : ∀ b, χ.A b → w'.heap[b]? = w.heap[b]?) : ∀ k {t : TN}, TypedC χ t → SmV m w (treeD k) (fun i => t.v[i]?) 0 → SmV m w' (treeD k) (fun i => t.v[i]?) 0 := by
  intro k
  induction k with
  | zero => intro t _ h; exact h.elim
  | succ k ih =>
    intro t hct hs
    refine ⟨hs.1, hs.2.1, hs.2.2.1, fun ao l c e => ⟨(hs.2.2.2.1 ao l c e).1, fun b' o' _ i _ => by simp only [SmV]⟩, fun ao l c e => ?_⟩
    have e' : some (Value.slice t.a4 t.l4 t.c4) = some (.slice ao l c) := e
    cases e'
    refine ⟨(hs.2.2.2.2 t.a4 t.l4 t.c4 rfl).1, fun b' o' e2 i hi2 => ?_⟩
    have hk := (hs.2.2.2.2 t.a4 t.l4 t.c4 rfl).2 b' o' e2 i hi2
    obtain ⟨p, hp, _⟩ := part_read hi hct.n (i := i) hi2
    have hpc := hp.typedC hi hct.n.r4 hi2
    have hp' := hp.same (χ' := χ) (w' := w') (fun _ h => h) hw
    obtain ⟨b1, o1, e1, hA1, hc1⟩ := hp
    obtain ⟨b3, o3, e3, hA3, hc3⟩ := hp'
    rw [e2] at e1 e3
    cases e1
    cases e3
    have h1 : SmV m w (treeD k) (fun i => p.v[i]?) 0 := SmV.congr (treeD k) (fun j hj => by
      rw [treeD_size] at hj ⊢
      rw [Nat.zero_add]
      exact hc1 j hj) hk
    refine SmV.congr (treeD k) (fun j hj => ?_) (ih hpc h1)
    rw [treeD_size] at hj ⊢
    rw [Nat.zero_add]
    exact (hc3 j hj).symm

theorem KT_eq' : KT = 39999 + 1 := by rw [KT_eq]

set_option maxRecDepth 100000 in
set_option maxHeartbeats 3200000 in
theorem hcall67 {r2 : D} (hS : ∀ b o, ClosS Tryz.prog 3 9 ⟨69, b, o, treeD KT⟩) : CallOK Tryz.prog 3 9 2000 67 (.seq (treeD KT) (.seq (.int .u8) (.seq (.row 5 (.int .u8)) (.seq (.int .u8) (.seq (.int .u32) r2))))) glT := by
  intro w χ b cs E hinv hA hc ht hgw hga hsm
  obtain ⟨t, hct, hcs⟩ := tree_cells (by unfold LB; omega) ht
  have hs1 : SmV 2000 w (treeD KT) (fun i => t.v[i]?) 0 := SmV.congr (treeD KT) (fun j hj => by
    rw [treeD_size] at hj
    rw [Nat.zero_add]
    exact hcs j hj) hsm.1
  rw [KT_eq'] at hs1
  have hs1d : SmV 2000 w.drew (treeD (39999 + 1)) (fun i => t.v[i]?) 0 := hs1.drew
  have hi := hinv.1.shut.drew
  have h78 : ∃ c1 c2, cs[7]? = some (.int .u8 c1) ∧ cs[8]? = some (.int .u32 c2) := by
    have h := TypedBy.of_bd (show 2000 ≤ LB by unfold LB; omega) ht
    have e7 := h 7
    have e8 := h 8
    simp only [D.cts, treeD_cts, kkOf] at e7 e8
    cases hv7 : cs[7]? with
    | none => rw [hv7] at e7; exact e7.elim
    | some v7 =>
      cases hv8 : cs[8]? with
      | none => rw [hv8] at e8; exact e8.elim
      | some v8 =>
        rw [hv7] at e7
        rw [hv8] at e8
        obtain ⟨n7, rfl, _⟩ := (show ∃ n, v7 = .int .u8 n ∧ _ from e7)
        obtain ⟨n8, rfl, _⟩ := (show ∃ n, v8 = .int .u32 n ∧ _ from e8)
        exact ⟨n7, n8, rfl, rfl⟩
  obtain ⟨c1, c2, h7, h8⟩ := h78
  have hcc := hct.n.shut
  have hfi := find_any (t := t) (c1 := c1) (c2 := c2) hi (fun _ h => h) ⟨hcc, hct.r3, hct.r4⟩ hs1d
  have gZ := grown_alloc w (.cells #[.int .u8 0, .int .u32 0, .bool false, .slice none 0 0, .slice none 0 0] 61)
  have gZd : w.grownBy (w.alloc (.cells #[.int .u8 0, .int .u32 0, .bool false, .slice none 0 0, .slice none 0 0] 61)).drew none := grown_trans gZ (grown_drew0 _)
  have hkZ : ∀ k, χ.A k → (w.alloc (.cells #[.int .u8 0, .int .u32 0, .bool false, .slice none 0 0, .slice none 0 0] 61)).drew.heap[k]? = w.heap[k]? := fun k hk => gZd.block k (hinv.1.lt hk) (by simp)
  have hfiB := find_any (t := t) (c1 := c1) (c2 := c2) (hinv.1.shut.same hkZ) (fun _ h => h) ⟨hcc, hct.r3, hct.r4⟩ (SmV.grow hinv.1 hkZ _ hct hs1)
  have hZ0 : (w.alloc (.cells #[.int .u8 0, .int .u32 0, .bool false, .slice none 0 0, .slice none 0 0] 61)).drew.heap[w.heap.size]? = some (.cells #[.int .u8 0, .int .u32 0, .bool false, .slice none 0 0, .slice none 0 0] 61 (0, 0)) := by show (w.alloc (.cells #[.int .u8 0, .int .u32 0, .bool false, .slice none 0 0, .slice none 0 0] 61)).heap[w.heap.size]? = _; rw [alloc_get, if_pos rfl]
  have k0 : w.drew.cell? ⟨b, 0, none⟩ = some (.int .u8 t.vc) := by rw [cell?_blk (show w.drew.heap[b]? = _ from hc)]; exact hcs 0 (by omega)
  have k1 : w.drew.cell? ⟨b, 1, none⟩ = some (.int .u32 t.vt) := by rw [cell?_blk (show w.drew.heap[b]? = _ from hc)]; exact hcs 1 (by omega)
  have k2 : w.drew.cell? ⟨b, 2, none⟩ = some (.bool t.vb) := by rw [cell?_blk (show w.drew.heap[b]? = _ from hc)]; exact hcs 2 (by omega)
  have k3 : w.drew.cell? ⟨b, 3, none⟩ = some (.slice t.a3 t.l3 t.c3) := by rw [cell?_blk (show w.drew.heap[b]? = _ from hc)]; exact hcs 3 (by omega)
  have k4 : w.drew.cell? ⟨b, 4, none⟩ = some (.slice t.a4 t.l4 t.c4) := by rw [cell?_blk (show w.drew.heap[b]? = _ from hc)]; exact hcs 4 (by omega)
  have k7 : w.drew.cell? ⟨b, 7, none⟩ = some (.int .u8 c1) := by rw [cell?_blk (show w.drew.heap[b]? = _ from hc)]; exact h7
  have k8 : w.drew.cell? ⟨b, 8, none⟩ = some (.int .u32 c2) := by rw [cell?_blk (show w.drew.heap[b]? = _ from hc)]; exact h8
  have hblt := lt_of_blk hc
  have j0 : w.cell? ⟨b, 0, none⟩ = some (.int .u8 t.vc) := k0
  have j1 : w.cell? ⟨b, 1, none⟩ = some (.int .u32 t.vt) := k1
  have j2 : w.cell? ⟨b, 2, none⟩ = some (.bool t.vb) := k2
  have j3 : w.cell? ⟨b, 3, none⟩ = some (.slice t.a3 t.l3 t.c3) := k3
  have j4 : w.cell? ⟨b, 4, none⟩ = some (.slice t.a4 t.l4 t.c4) := k4
  have j7 : w.cell? ⟨b, 7, none⟩ = some (.int .u8 c1) := k7
  have j8 : w.cell? ⟨b, 8, none⟩ = some (.int .u32 c2) := k8
  unfold TN.agg at hfi hfiB
  clear hs1 hs1d hsm hct hcs ht hgw hga h7 h8
  go_enter Tryz.func67, Tryz.ntmps67
  go_upto_region 1 with fail
  go_cut [3] (fun p wx => ∃ (rb : Nat) (χ2 : Chi) (t2 : TN), p = .pointer (some ⟨rb, 0, none⟩) ∧ TF χ2 t2 ∧ TGrows χ.shut w χ2 wx ∧ wx.heap[rb]? = some (.cells #[.int .u8 t2.vc, .int .u32 t2.vt, .bool t2.vb, .slice t2.a3 t2.l3 t2.c3, .slice t2.a4 t2.l4 t2.c4] 61 (0, 0)) ∧ ¬ χ2.A rb ∧ w.heap.size ≤ rb)
  case first =>
    go_wp2_with fail
    go_region_law (first
      | (refine step_call3 rfl 68 (.tmp 9) (.tmp 13) (.tmp 17) #[61, 5, 24] rfl find_cal (by go_simp) (by go_simp) (by go_simp) hfi (fun e w2 h => ?_)
         obtain ⟨χ2, t2, bb, he, hT2, G2⟩ := h
         unfold TN.agg at he
         subst he
         have GA : TGrows χ.shut w χ2 w2 := (TGrows.plain hinv.1.shut (grown_drew0 w)).trans G2
         have HM : ∃ (rb : Nat) (χ2' : Chi) (t2' : TN), Value.pointer (some ⟨w2.heap.size, 0, none⟩) = .pointer (some ⟨rb, 0, none⟩) ∧ TF χ2' t2' ∧ TGrows χ.shut w χ2' (w2.alloc (.cells #[.int .u8 t2.vc, .int .u32 t2.vt, .bool t2.vb, .slice t2.a3 t2.l3 t2.c3, .slice t2.a4 t2.l4 t2.c4] 61)) ∧ (w2.alloc (.cells #[.int .u8 t2.vc, .int .u32 t2.vt, .bool t2.vb, .slice t2.a3 t2.l3 t2.c3, .slice t2.a4 t2.l4 t2.c4] 61)).heap[rb]? = some (.cells #[.int .u8 t2'.vc, .int .u32 t2'.vt, .bool t2'.vb, .slice t2'.a3 t2'.l3 t2'.c3, .slice t2'.a4 t2'.l4 t2'.c4] 61 (0, 0)) ∧ ¬ χ2'.A rb ∧ w.heap.size ≤ rb :=
           ⟨w2.heap.size, χ2, t2, rfl, hT2, GA.trans (TGrows.plain GA.inv (grown_alloc _ _)), by rw [alloc_get, if_pos rfl], fun h => by have := GA.inv.lt h; omega, GA.mem.size⟩
         refine .inl ⟨_, rfl, ?_⟩)
      | (refine step_call3 rfl 68 (.tmp 9) (.tmp 13) (.tmp 17) #[61, 5, 24] rfl find_cal (by go_simp) (by go_simp) (by go_simp) hfiB (fun e w2 h => ?_)
         obtain ⟨χ2, t2, bb, he, hT2, G2⟩ := h
         unfold TN.agg at he
         subst he
         obtain ⟨hZ2, _⟩ := G2.keep hZ0 (fun h => h)
         have GB : TGrows χ.shut w χ2 w2 := (TGrows.plain hinv.1.shut gZd).trans G2
         have hZA : ¬ χ2.A w.heap.size := fun h => by
           rcases G2.mem.An _ h with h1 | h1
           · have := hinv.1.lt h1; omega
           · have := lt_of_blk hZ0; omega
         obtain ⟨m0, m1, m2, m3, m4⟩ := TN.cells5 (t := ⟨0, 0, false, none, 0, 0, none, 0, 0⟩) hZ2
         dsimp only at m0 m1 m2 m3 m4
         have f : ∀ i, w2.frozen? ⟨w.heap.size, i, none⟩ = false := fun i => by rw [frozen?_blk hZ2]; simp
         have f0 := f 0
         have f1 := f 1
         have f2 := f 2
         have f3 := f 3
         have f4 := f 4
         have hltZ := lt_of_blk hZ2
         have hset := set5 (a0 := .int .u8 t2.vc) (a1 := .int .u32 t2.vt) (a2 := .bool t2.vb) (a3 := .slice t2.a3 t2.l3 t2.c3) (a4 := .slice t2.a4 t2.l4 t2.c4) hZ2
         have HM : ∃ (rb : Nat) (χ2' : Chi) (t2' : TN), Value.pointer (some ⟨w.heap.size, 0, none⟩) = .pointer (some ⟨rb, 0, none⟩) ∧ TF χ2' t2' ∧ TGrows χ.shut w χ2' (((((w2.setCell ⟨w.heap.size, 0, none⟩ (.int .u8 t2.vc)).setCell ⟨w.heap.size, 1, none⟩ (.int .u32 t2.vt)).setCell ⟨w.heap.size, 2, none⟩ (.bool t2.vb)).setCell ⟨w.heap.size, 3, none⟩ (.slice t2.a3 t2.l3 t2.c3)).setCell ⟨w.heap.size, 4, none⟩ (.slice t2.a4 t2.l4 t2.c4)) ∧ (((((w2.setCell ⟨w.heap.size, 0, none⟩ (.int .u8 t2.vc)).setCell ⟨w.heap.size, 1, none⟩ (.int .u32 t2.vt)).setCell ⟨w.heap.size, 2, none⟩ (.bool t2.vb)).setCell ⟨w.heap.size, 3, none⟩ (.slice t2.a3 t2.l3 t2.c3)).setCell ⟨w.heap.size, 4, none⟩ (.slice t2.a4 t2.l4 t2.c4)).heap[rb]? = some (.cells #[.int .u8 t2'.vc, .int .u32 t2'.vt, .bool t2'.vb, .slice t2'.a3 t2'.l3 t2'.c3, .slice t2'.a4 t2'.l4 t2'.c4] 61 (0, 0)) ∧ ¬ χ2'.A rb ∧ w.heap.size ≤ rb :=
           ⟨w.heap.size, χ2, t2, rfl, hT2, by rw [hset]; exact GB.setNew (Nat.le_refl _) hZA hltZ _, by rw [hset, setBlk_get hltZ, if_pos rfl], hZA, Nat.le_refl _⟩
         clear f hset hZ2
         refine .inl ⟨_, rfl, ?_⟩))
    all_goals
      go_wp2_with fail
      go_meet
      exact HM
  case rest =>
    obtain ⟨rb, χ2, t2, rfl, hT2, G2, hrb, hnA, hge⟩ := hcut
    have hmf : ∀ (fn : Fn) (first cap : Array Value) (w : World), (Instr.makeFunc fn first cap).run Tryz.prog w = .ok (.func fn first cap) w := fun _ _ _ _ => rfl
    have hpost := callPost_tree (FE := 42) (fun _ h => h) G2 hT2 hrb hnA hge hS
    go_wp2
    exact bodyPost_ret (v := .slice (some ⟨wc.heap.size, 0, none⟩) 1 1) (by simp [results, Tryz.results67, go_sem]) rfl hpost

end Go.Sx
