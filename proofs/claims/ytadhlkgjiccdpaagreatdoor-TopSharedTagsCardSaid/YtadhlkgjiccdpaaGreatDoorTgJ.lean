/- Part TgJ of a proof: helper lemmas; no conditions. -/
import Derived.Test.YtadhlkgjiccdpaaGreatDoorTgO
import Derived.Test.YtadhlkgjiccdpaaGreatDoorTgH

set_option linter.unusedSimpArgs false
set_option linter.unusedVariables false

namespace Go.Sx
open Go Go.Proofs

theorem TreeAt.shut {χ : Chi} {w : World} : ∀ {d n s : Nat} {t : TN}, TreeAt χ w d n s t → TreeAt χ.shut w d n s t
  | 0, _, _, _, h => h.elim
  | d + 1, _, _, _, h => by
    obtain ⟨h0, ns, ss, ps, h1, h2, h3⟩ := h
    exact ⟨h0.shut, ns, ss, ps, h1, h2, fun i hi => ⟨(h3 i hi).1, (h3 i hi).2.shut⟩⟩

theorem RowOK.re {χ χ' : Chi} (hA : ∀ b, χ.A b → χ'.A b) (hκ : ∀ b, χ.A b → ∀ i, χ'.κ b i = χ.κ b i) {cts : List CT} {ao : Option Addr} {c : Nat} (h : RowOK χ χ.A cts ao c) : RowOK χ' χ'.A cts ao c := by
  cases ao with
  | none => exact h
  | some ad => exact ⟨h.1, hA _ h.2.1, fun i hi => by rw [hκ _ h.2.1]; exact h.2.2 i hi⟩

set_option maxRecDepth 100000 in
set_option maxHeartbeats 1600000 in
theorem iscan_any (hb : FnOK Tryz.prog 129 cBeq) {χ : Chi} {w : World} {ao : Option Addr} {l c : Nat} (hi : Inv Tryz.prog χ w) (hl : l ≤ 1099511627776) (hlc : l ≤ c) (hcc : c ≤ CB) (hr : RowOK χ χ.A oct ao c) : Calls Tryz.prog 66 #[.slice ao l c] w (BoolNew w) := by
  have hde := decode2_any hi.shut hl hlc hcc hr
  go_enter Tryz.func66, Tryz.ntmps66
  go_wp2_with fail
  refine hde.mono ?_
  clear hde
  rintro e w2 ⟨vc, vt, vb, a3, l3, c3, a4, l4, c4, χ2, r, rfl, r0, r1, hT, G2, hTr⟩
  have hg2 := grown_of_mem G2.mem (fun _ h => h)
  have hga := grown_alloc w2 (.cells #[.int .u8 vc, .int .u32 vt, .bool vb, .slice a3 l3 c3, .slice a4 l4 c4] 61)
  have hgw := grown_trans hg2 hga
  by_cases h0 : r = 0
  · subst h0
    obtain ⟨n, s, hn, hs, htr⟩ := hTr rfl
    clear hTr
    have hk : ∀ b, χ2.A b → (w2.alloc (.cells #[.int .u8 vc, .int .u32 vt, .bool vb, .slice a3 l3 c3, .slice a4 l4 c4] 61)).heap[b]? = w2.heap[b]? := fun b hb => hga.block b (G2.inv.lt hb) (by simp)
    have hi3 := (G2.inv.same hk).shut
    have hen := encode_any hi3 (fun _ h => h) 16 (htr.shut.same (Ext.refl 0 χ2.shut) hk) (f := 0) (ao := none) (l := 0) (c := 0) (TGrows.plain hi3 (grown_refl _)) (by omega) (by unfold CB; omega) (.inl rfl) (by omega)
    unfold TN.agg at hen
    go_wp2_with fail
    refine hen.mono ?_
    clear hen
    rintro e w4 ⟨ao4, l4', c4', χ4, rfl, b1, b2, b3, b4, b5, G4⟩
    have hg4 := grown_of_mem G4.mem (fun _ h => h)
    have hrow : RowOK χ4 χ4.A oct ao c := RowOK.re (χ := χ2.shut) G4.ext.A G4.ext.κ (RowOK.re (χ := χ.shut) (χ' := χ2) G2.ext.A G2.ext.κ hr)
    have hbe := beq_call hb G4.inv ⟨b3, by omega, b4⟩ (b5.monoS G4.inv.sub) ⟨hlc, hl, hcc⟩ hrow
    go_wp2_with fail
    refine hbe.mono ?_
    clear hbe
    rintro e w5 ⟨⟨bb, rfl⟩, hg5⟩
    go_wp2_with fail
    exact bodyPost_ret (v := .bool bb) (by simp [results, Tryz.results66, go_sem]) rfl ⟨⟨_, rfl⟩, grown_trans (grown_trans hgw hg4) hg5⟩
  · have hrb : (r == 0) = false := by simpa using h0
    go_wp2_with fail
    exact bodyPost_ret (v := .bool false) (by simp [results, Tryz.results66, go_sem]) rfl ⟨⟨_, rfl⟩, hgw⟩

noncomputable def cTcan : Contract := conOf Tryz.prog 1099511627776 3 false ((Tryz.prog.funcs[66]?).getD default)

set_option maxRecDepth 100000 in
theorem hand66 (hb : FnOK Tryz.prog 129 cBeq) : FnOK Tryz.prog 66 cTcan := by
  have e1 : cTcan.iv = [some (0, 1099511627776), some (0, 9223372036854775807)] := by kernel_rfl
  have e2 : cTcan.params = [.pv (.one (.slice false (.base 5) (.v 0) (.v 1)))] := by kernel_rfl
  have e4 : cTcan.riv = [some (0, 1)] := by kernel_rfl
  have e5 : cTcan.res = .pv (.one (.bool (.eq (.v 2) (.c 1)))) := by kernel_rfl
  have e6 : cTcan.post = [] := by kernel_rfl
  have e7 : cTcan.nv = 2 := by kernel_rfl
  refine fnOK_plain fun χ w args hinv ha hi hp => ?_
  rw [e2] at ha
  rw [e1] at hi
  obtain ⟨args⟩ := args
  match args, ha with
  | [a], ⟨ha, _⟩ =>
    obtain ⟨ao, l, c, rfl, p1, p2, p3, p4, p5⟩ := ha
    simp only [T.ev] at p1 p2
    obtain ⟨i0, _⟩ := hi
    simp only [SE.ev, tau5w] at p5
    have hl : l ≤ 1099511627776 := by have := i0.2; omega
    refine (iscan_any hb hinv hl p3 p4 p5).mono ?_
    rintro e w' ⟨⟨bb, rfl⟩, hg⟩
    refine ⟨_, [if bb then 1 else 0], rfl, hg, ?_, ?_, ?_⟩
    · rw [e5, e7]
      show Value.bool bb = Value.bool (Fm.b (rext χ.ρ 2 [if bb then 1 else 0]) (.eq (.v 2) (.c 1)))
      cases bb <;> simp [rext, Fm.b, T.ev]
    · rw [e4, e7]
      refine ⟨?_, trivial⟩
      cases bb <;> simp [rext]
    · rw [e6]; trivial

end Go.Sx

namespace Go.Sx
open Go Go.Proofs

def IntNew (w : World) (e : Ending) (w' : World) : Prop := (∃ r : Int, e = .returned (.int .i64 r) ∧ 0 ≤ r ∧ r ≤ 9223372036854775807) ∧ w.grownBy w' none

set_option maxRecDepth 100000 in
set_option maxHeartbeats 1600000 in
theorem count_any {χ : Chi} {w : World} {t : TN} (hi : Inv Tryz.prog χ w) (ht : TypedN χ t) : Calls Tryz.prog 50 #[t.agg] w (IntNew w) := by
  have hg0 := grown_alloc w (.cells #[.int .u8 t.vc, .int .u32 t.vt, .bool t.vb, .slice t.a3 t.l3 t.c3, .slice t.a4 t.l4 t.c4] 61)
  have hE : (w.alloc (.cells #[.int .u8 t.vc, .int .u32 t.vt, .bool t.vb, .slice t.a3 t.l3 t.c3, .slice t.a4 t.l4 t.c4] 61)).heap[w.heap.size]? = some (.cells #[.int .u8 t.vc, .int .u32 t.vt, .bool t.vb, .slice t.a3 t.l3 t.c3, .slice t.a4 t.l4 t.c4] 61 (0, 0)) := by rw [alloc_get, if_pos rfl]
  generalize hw1 : w.alloc (.cells #[.int .u8 t.vc, .int .u32 t.vt, .bool t.vb, .slice t.a3 t.l3 t.c3, .slice t.a4 t.l4 t.c4] 61) = w1 at *
  have hg1 := grown_alloc w1 (.cells #[.int .i64 0] 3)
  have hg := grown_trans hg0 hg1
  have hC : (w1.alloc (.cells #[.int .i64 0] 3)).heap[w1.heap.size]? = some (.cells #[.int .i64 0] 3 (0, 0)) := by rw [alloc_get, if_pos rfl]
  have hE1 := (hg1.block _ (lt_of_blk hE) (by simp)).trans hE
  have hk : ∀ b, χ.A b → (w1.alloc (.cells #[.int .i64 0] 3)).heap[b]? = w.heap[b]? := fun b hb => hg.block b (hi.lt hb) (by simp)
  have hi1 : Inv Tryz.prog χ (w1.alloc (.cells #[.int .i64 0] 3)) := hi.same hk
  have hnC : ¬ χ.A w1.heap.size := fun h => by have := hi.lt h; have := hg0.size; omega
  have hch := check_any hi1 ht
  have hEn : w.heap.size ≠ w1.heap.size := Nat.ne_of_lt (lt_of_blk hE)
  obtain ⟨k0, k1, k2, k3, k4⟩ := TN.cells5 hE1
  unfold TN.agg at hch ⊢
  have fin : ∀ {w3 : World} {r : Int} {tm : Array Value}, w.grownBy w3 none → 0 ≤ r → r ≤ 9223372036854775807 → w3.heap[w1.heap.size]? = some (.cells #[.int .i64 r] 3 (0, 0)) → tm[2]? = some (.pointer (some ⟨w1.heap.size, 0, none⟩)) →
      bodyPost Tryz.prog Tryz.f50 (IntNew w) Exit.ret { tmps := tm, defers := [] } (w3.setCell ⟨w1.heap.size, 0, none⟩ (.int .i64 r)) := by
    intro w3 r tm hgw h0 h1 hB ht2
    obtain ⟨p1, p2⟩ := put1 (v' := .int .i64 r) hB
    have y0 : (w3.setCell ⟨w1.heap.size, 0, none⟩ (.int .i64 r)).cell? ⟨w1.heap.size, 0, none⟩ = some (.int .i64 r) := by rw [cell?_blk p1]; rfl
    exact bodyPost_ret (v := .int .i64 r) (by simp [results, Tryz.results50, go_sem, y0, ht2]) rfl ⟨⟨r, rfl, h0, h1⟩, grown_new hgw hg0.size p2⟩
  go_enter Tryz.func50, Tryz.ntmps50
  go_wp2_with fail
  refine hch.mono ?_
  clear hch k0 k1 k2 k3 k4
  rintro e w2 ⟨hg2, r, rfl, r0, r1, _⟩
  have hgw2 := grown_trans hg hg2
  have hC2 := (hg2.block _ (lt_of_blk hC) (by simp)).trans hC
  have hE2 := (hg2.block _ (lt_of_blk hE1) (by simp)).trans hE1
  have m0 : w2.cell? ⟨w1.heap.size, 0, none⟩ = some (.int .i64 0) := by rw [cell?_blk hC2]; rfl
  by_cases hr : r = 0
  · subst hr
    have hk2 : ∀ b, χ.A b → w2.heap[b]? = w.heap[b]? := fun b hb => hgw2.block b (hi.lt hb) (by simp)
    have hm := measure_any 16 1 rfl (hi.same hk2) ht hnC hC2 (by omega) (by omega)
    obtain ⟨k0, k1, k2, k3, k4⟩ := TN.cells5 hE2
    clear m0
    go_wp2_with fail
    refine hm.mono ?_
    clear hm k0 k1 k2 k3 k4
    rintro e w3 ⟨hg3, cnt, hC3, c0, c1, hor⟩
    have m0 : w3.cell? ⟨w1.heap.size, 0, none⟩ = some (.int .i64 cnt) := by rw [cell?_blk hC3]; rfl
    have f0 : w3.frozen? ⟨w1.heap.size, 0, none⟩ = false := by rw [frozen?_blk hC3]; simp
    have hgw3 := grown_new hgw2 hg0.size hg3
    rcases hor with ⟨rfl, _⟩ | rfl
    all_goals
      go_wp2_with fail
      exact fin hgw3 (by omega) (by omega) hC3 rfl
  · have hrb : (r == 0) = false := by simpa using hr
    have f0 : w2.frozen? ⟨w1.heap.size, 0, none⟩ = false := by rw [frozen?_blk hC2]; simp
    go_wp2_with fail
    exact fin hgw2 (by omega) (by omega) hC2 rfl

set_option maxRecDepth 100000 in
set_option maxHeartbeats 1600000 in
theorem tsize_any {χ : Chi} {w : World} {t : TN} (hi : Inv Tryz.prog χ w) (ht : TypedN χ t) : Calls Tryz.prog 52 #[t.agg] w (IntNew w) := by
  have hg0 := grown_alloc w (.cells #[.int .u8 t.vc, .int .u32 t.vt, .bool t.vb, .slice t.a3 t.l3 t.c3, .slice t.a4 t.l4 t.c4] 61)
  have hE : (w.alloc (.cells #[.int .u8 t.vc, .int .u32 t.vt, .bool t.vb, .slice t.a3 t.l3 t.c3, .slice t.a4 t.l4 t.c4] 61)).heap[w.heap.size]? = some (.cells #[.int .u8 t.vc, .int .u32 t.vt, .bool t.vb, .slice t.a3 t.l3 t.c3, .slice t.a4 t.l4 t.c4] 61 (0, 0)) := by rw [alloc_get, if_pos rfl]
  have hk1 : ∀ b, χ.A b → (w.alloc (.cells #[.int .u8 t.vc, .int .u32 t.vt, .bool t.vb, .slice t.a3 t.l3 t.c3, .slice t.a4 t.l4 t.c4] 61)).heap[b]? = w.heap[b]? := fun b hb => hg0.block b (hi.lt hb) (by simp)
  have hch := check_any (hi.same hk1) ht
  obtain ⟨k0, k1, k2, k3, k4⟩ := TN.cells5 hE
  unfold TN.agg at hch ⊢
  go_enter Tryz.func52, Tryz.ntmps52
  go_wp2_with fail
  refine hch.mono ?_
  clear hch k0 k1 k2 k3 k4
  rintro e w2 ⟨hg2, r, rfl, r0, r1, hr⟩
  have hE2 := (hg2.block _ (lt_of_blk hE) (by simp)).trans hE
  have hgw2 := grown_trans hg0 hg2
  have hk2 : ∀ b, χ.A b → w2.heap[b]? = w.heap[b]? := fun b hb => hgw2.block b (hi.lt hb) (by simp)
  by_cases h0 : r = 0
  · obtain ⟨n, s, hn, htr1⟩ := hr.1 h0
    subst h0
    have htr : TreeAt χ w 16 n s t := htr1.same (Ext.refl 0 χ) (fun b hb => (hk1 b hb).symm)
    have hbd := htr.bound
    have hlo := long_any 16 (hi.same hk2) (htr.same (Ext.refl 0 χ) hk2) hn
    obtain ⟨k0, k1, k2, k3, k4⟩ := TN.cells5 hE2
    unfold TN.agg at hlo
    clear hr htr1 hE
    go_wp2_with fail
    refine hlo.mono ?_
    clear hlo k0 k1 k2 k3 k4
    rintro e w3 ⟨hg3, m, rfl, m0, m1⟩
    go_wp2
    exact bodyPost_ret (v := .int .i64 (m : Int)) (by simp [results, Tryz.results52, go_sem]) rfl ⟨⟨_, rfl, by omega, by omega⟩, grown_trans hgw2 hg3⟩
  · have hrb : (r != 0) = true := by simpa using h0
    go_wp2
    exact bodyPost_ret (v := .int .i64 0) (by simp [results, Tryz.results52, go_sem]) rfl ⟨⟨_, rfl, by omega, by omega⟩, hgw2⟩

noncomputable def cTcount : Contract := conOf Tryz.prog 1099511627776 3 false ((Tryz.prog.funcs[50]?).getD default)

set_option maxRecDepth 100000 in
theorem hand50 : FnOK Tryz.prog 50 cTcount := by
  have e1 : cTcount.iv = treeIv ++ [] := by kernel_rfl
  have e2 : cTcount.params = [treePar] := by kernel_rfl
  have e4 : cTcount.riv = [some (-9223372036854775808, 9223372036854775807)] := by kernel_rfl
  have e5 : cTcount.res = .pv (.one (.int .i64 (.v 7))) := by kernel_rfl
  have e6 : cTcount.post = [] := by kernel_rfl
  have e7 : cTcount.nv = 7 := by kernel_rfl
  refine fnOK_plain fun χ w args hinv ha hi hp => ?_
  rw [e2] at ha
  rw [e1] at hi
  obtain ⟨args⟩ := args
  match args, ha with
  | [a], ⟨ha, _⟩ =>
    obtain ⟨t, rfl, ht⟩ := tree_arg ha hi
    refine (count_any hinv ht.n).mono ?_
    rintro e w' ⟨⟨r, rfl, r0, r1⟩, hg⟩
    refine ⟨_, [r], rfl, hg, ?_, ?_, ?_⟩
    · rw [e5, e7]
      show Value.int .i64 r = Value.int .i64 (rext χ.ρ 7 [r] 7)
      simp [rext]
    · rw [e4, e7]
      refine ⟨?_, trivial⟩
      simp [rext]
      omega
    · rw [e6]; trivial

noncomputable def cTsize : Contract := conOf Tryz.prog 1099511627776 3 false ((Tryz.prog.funcs[52]?).getD default)

set_option maxRecDepth 100000 in
theorem hand52 : FnOK Tryz.prog 52 cTsize := by
  have e1 : cTsize.iv = treeIv ++ [] := by kernel_rfl
  have e2 : cTsize.params = [treePar] := by kernel_rfl
  have e4 : cTsize.riv = [some (-9223372036854775808, 9223372036854775807)] := by kernel_rfl
  have e5 : cTsize.res = .pv (.one (.int .i64 (.v 7))) := by kernel_rfl
  have e6 : cTsize.post = [] := by kernel_rfl
  have e7 : cTsize.nv = 7 := by kernel_rfl
  refine fnOK_plain fun χ w args hinv ha hi hp => ?_
  rw [e2] at ha
  rw [e1] at hi
  obtain ⟨args⟩ := args
  match args, ha with
  | [a], ⟨ha, _⟩ =>
    obtain ⟨t, rfl, ht⟩ := tree_arg ha hi
    refine (tsize_any hinv ht.n).mono ?_
    rintro e w' ⟨⟨r, rfl, r0, r1⟩, hg⟩
    refine ⟨_, [r], rfl, hg, ?_, ?_, ?_⟩
    · rw [e5, e7]
      show Value.int .i64 r = Value.int .i64 (rext χ.ρ 7 [r] 7)
      simp [rext]
    · rw [e4, e7]
      refine ⟨?_, trivial⟩
      simp [rext]
      omega
    · rw [e6]; trivial

noncomputable def cTencAs : Contract := conOfX Tryz.prog 1099511627776 65536 [] [] [] [] ((Tryz.prog.funcs[57]?).getD default)

set_option maxRecDepth 100000 in
theorem hand57 : FnOK Tryz.prog 57 cTencAs := by
  have e1 : cTencAs.iv = treeIv ++ [some (0, 255)] := by kernel_rfl
  have e2 : cTencAs.params = [treePar, .pv (.one (.int .u8 (.v 7)))] := by kernel_rfl
  have e4 : cTencAs.riv = [some (0, 65536), some (0, 9223372036854775807), some (-9223372036854775808, 9223372036854775807)] := by kernel_rfl
  have e5 : cTencAs.res = .tup [.one (.slice true (.base 5) (.v 8) (.v (8 + 1))), .one (.int .i64 (.v (8 + 2)))] := by kernel_rfl
  have e6 : cTencAs.post = [.le (.v 8) (.v (8 + 1))] := by kernel_rfl
  have e7 : cTencAs.nv = 8 := by kernel_rfl
  intro χ w args hinv ha hi hp _
  rw [e2] at ha
  rw [e1] at hi
  obtain ⟨args⟩ := args
  match args, ha with
  | [a, f], ⟨ha, hf, _⟩ =>
    obtain ⟨t, rfl, ht⟩ := tree_arg ha hi
    have hf' : f = .int .u8 (χ.ρ 7) := hf
    subst hf'
    refine (encodeAs_any hinv ht.n).mono ?_
    intro e w' hb
    rw [e7, e5, e4, e6]
    exact berr_out 8 hb

noncomputable def cTfirst : Contract := conOfX Tryz.prog 1099511627776 1099511627776 [] [] [] [] ((Tryz.prog.funcs[60]?).getD default)

set_option maxRecDepth 100000 in
theorem hand60 : FnOK Tryz.prog 60 cTfirst := by
  have e1 : cTfirst.iv = [some (0, 1099511627776), some (0, 9223372036854775807)] := by kernel_rfl
  have e2 : cTfirst.params = [.pv (.one (.slice false (.base 5) (.v 0) (.v 1)))] := by kernel_rfl
  have e4 : cTfirst.riv = [some (0, 255), some (0, 4294967295), some (0, 1), some (0, 1099511627776), some (0, 9223372036854775807), some (0, 1099511627776), some (0, 9223372036854775807), some (-9223372036854775808, 9223372036854775807), some (-9223372036854775808, 9223372036854775807)] := by kernel_rfl
  have e5 : cTfirst.res = .tup [.agg [.int .u8 (.v 2), .int .u32 (.v 3), .bool (.eq (.v 4) (.c 1)), .slice true (.base 5) (.v 5) (.v 6), .slice true (.base 61) (.v 7) (.v 8)], .one (.int .i64 (.v 9)), .one (.int .i64 (.v 10))] := by kernel_rfl
  have e6 : cTfirst.post = [.le (.v 5) (.v 6), .le (.v 7) (.v 8)] := by kernel_rfl
  have e7 : cTfirst.nv = 2 := by simp [Contract.nv, e1]
  intro χ w args hinv ha hi hp _
  rw [e2] at ha
  rw [e1] at hi
  obtain ⟨args⟩ := args
  match args, ha with
  | [a], ⟨ha, _⟩ =>
    obtain ⟨ao, l, c, rfl, p1, p2, p3, p4, p5⟩ := ha
    simp only [T.ev] at p1 p2
    obtain ⟨i0, _⟩ := hi
    simp only [SE.ev, tau5] at p5
    have hl : l ≤ 1099511627776 := by have := i0.2; omega
    refine (first2_any hinv hl p3 p4 p5).mono ?_
    rintro e w' ⟨vc, vt, vb, a3, l3, c3, a4, l4, c4, χ2, n, r, rfl, n0, n1, r0, r1, hT, G, _⟩
    have k1 : Ext 2 χ (χ2.withρ (rext χ.ρ 2 [vc, vt, (if vb then 1 else 0), (l3 : Int), (c3 : Int), (l4 : Int), (c4 : Int), n, r])) := ⟨fun i hi => by simp only [Chi.withρ]; exact rext_lt hi, G.ext.F, G.ext.A, G.ext.κ⟩
    have h31 := hT.l3.2.1
    have h32 := hT.l3.2.2
    have h41 := hT.l4.2.1
    have h42 := hT.l4.2.2
    unfold LB at h31 h41
    unfold CB at h32 h42
    have hc0 := hT.c0
    have ht0 := hT.t0
    have h30 := hT.l3.1
    have h40 := hT.l4.1
    refine ⟨_, _, rfl, by rw [e7]; exact k1, G.mem.withρ _, G.inv.withρ _, ?_, ?_, ?_⟩
    · rw [e5]
      refine ⟨_, rfl, ⟨_, rfl, ⟨?_, ?_, ?_, ⟨a3, l3, c3, rfl, ?_, ?_, hT.l3.1, hT.l3.2.2, ?_⟩, ⟨a4, l4, c4, rfl, ?_, ?_, hT.l4.1, hT.l4.2.2, ?_⟩, trivial⟩, ?_⟩, ?_, ?_, trivial⟩
      · show Value.int .u8 vc = Value.int .u8 (rext χ.ρ 2 [vc, vt, (if vb then 1 else 0), (l3 : Int), (c3 : Int), (l4 : Int), (c4 : Int), n, r] 2)
        simp [rext]
      · show Value.int .u32 vt = Value.int .u32 (rext χ.ρ 2 [vc, vt, (if vb then 1 else 0), (l3 : Int), (c3 : Int), (l4 : Int), (c4 : Int), n, r] 3)
        simp [rext]
      · show Value.bool vb = Value.bool (decide (rext χ.ρ 2 [vc, vt, (if vb then 1 else 0), (l3 : Int), (c3 : Int), (l4 : Int), (c4 : Int), n, r] 4 = 1))
        cases vb <;> simp [rext]
      · show (l3 : Int) = rext χ.ρ 2 [vc, vt, (if vb then 1 else 0), (l3 : Int), (c3 : Int), (l4 : Int), (c4 : Int), n, r] 5
        simp [rext]
      · show (c3 : Int) = rext χ.ρ 2 [vc, vt, (if vb then 1 else 0), (l3 : Int), (c3 : Int), (l4 : Int), (c4 : Int), n, r] 6
        simp [rext]
      · simp only [SE.ev, tau5]; exact hT.r3
      · show (l4 : Int) = rext χ.ρ 2 [vc, vt, (if vb then 1 else 0), (l3 : Int), (c3 : Int), (l4 : Int), (c4 : Int), n, r] 7
        simp [rext]
      · show (c4 : Int) = rext χ.ρ 2 [vc, vt, (if vb then 1 else 0), (l3 : Int), (c3 : Int), (l4 : Int), (c4 : Int), n, r] 8
        simp [rext]
      · simp only [SE.ev, tauT]; exact hT.r4
      · intro x hx
        simp only [List.mem_cons, List.not_mem_nil, or_false] at hx
        rcases hx with rfl | rfl | rfl | rfl | rfl <;> rfl
      · show Value.int .i64 n = Value.int .i64 (rext χ.ρ 2 [vc, vt, (if vb then 1 else 0), (l3 : Int), (c3 : Int), (l4 : Int), (c4 : Int), n, r] 9)
        simp [rext]
      · show Value.int .i64 r = Value.int .i64 (rext χ.ρ 2 [vc, vt, (if vb then 1 else 0), (l3 : Int), (c3 : Int), (l4 : Int), (c4 : Int), n, r] 10)
        simp [rext]
    · rw [e7, e4]
      have hb : (0 : Int) ≤ (if vb then 1 else 0) ∧ (if vb then (1 : Int) else 0) ≤ 1 := by cases vb <;> simp
      refine ⟨?_, ?_, ?_, ?_, ?_, ?_, ?_, ?_, ?_, trivial⟩
      all_goals
        simp [Chi.withρ, rext]
        omega
    · rw [e6]
      refine ⟨?_, ?_, trivial⟩
      all_goals
        simp [Fm.holds, T.ev, Chi.withρ, rext]
        omega

end Go.Sx
