/- Part TgE of a proof: helper lemmas; no conditions. -/
import Derived.Test.YtadhlkgjiccdpaaGreatDoorTgQ
import Derived.Deep.CutBlock
import Derived.Test.YtadhlkgjiccdpaaGreatDoorHnC

set_option linter.unusedSimpArgs false
set_option linter.unusedVariables false

namespace Go.Sx
open Go Go.Proofs

theorem clip_val {w : World} {ao : Option Addr} {l c : Nat} (hlc : l ≤ c) (hl : l ≤ 1099511627776) : Calls Tryz.prog 94 #[.slice ao l c] w fun e w' => e = .returned (.slice ao l l) ∧ w' = w := by
  have hil : (l : Int) ≤ (c : Int) := by omega
  go_enter Tryz.func94, Tryz.ntmps94
  go_wp2
  exact bodyPost_ret (v := .slice ao l l) (by simp [results, Tryz.results94, go_sem]) rfl ⟨rfl, rfl⟩

theorem oct_short {χ : Chi} {S : Nat → Prop} {ao : Option Addr} {c n : Nat} (h : RowOK χ S oct ao c) (hn : n ≤ c) : RowOK χ S oct ao n := by
  cases ao with
  | none => have : c = 0 := h; show n = 0; omega
  | some ad =>
    refine ⟨h.1, h.2.1, fun i hi => h.2.2 i ?_⟩
    have : n * oct.length ≤ c * oct.length := Nat.mul_le_mul_right _ hn
    omega

theorem sumN_one {ns ss : Nat → Nat} {i m : Nat} (h : i < m) : sumN ns i + ns i ≤ sumN ns m ∧ sumN ss i + ss i ≤ sumN ss m := ⟨sumN_mono ns (m := i + 1) h, sumN_mono ss (m := i + 1) h⟩

set_option maxRecDepth 100000 in
set_option maxHeartbeats 3200000 in
theorem encode_any {χ0 : Chi} {w0 : World} (hi0 : Inv Tryz.prog χ0 w0) (hF0 : ∀ b, ¬ χ0.F b) : ∀ d {n s : Nat} {t : TN}, TreeAt χ0 w0 d n s t → ∀ {χ : Chi} {w : World} {ao : Option Addr} {l c : Nat} {f : Int}, TGrows χ0 w0 χ w → l ≤ c → c ≤ CB → OutRow χ ao l c → l + s + 40 * n ≤ 10000000000000 →
    Calls Tryz.prog 126 #[.slice ao l c, t.agg, .int .u8 f] w (RowPost χ w (l + 1) (l + s + 40 * n)) := by
  intro d
  induction d with
  | zero => intro n s t h; exact h.elim
  | succ d ih =>
    intro n s t ht χ w ao l c f G hlc hcc hrow hsum
    have hty0 := ht.typed
    obtain ⟨_, ns, ss, ps, hns, hss, hps⟩ := ht
    have hty : TypedN χ t := hty0.ext G.ext
    have hg0 := grown_alloc w (.cells #[.int .u8 t.vc, .int .u32 t.vt, .bool t.vb, .slice t.a3 t.l3 t.c3, .slice t.a4 t.l4 t.c4] 61)
    have hE : (w.alloc (.cells #[.int .u8 t.vc, .int .u32 t.vt, .bool t.vb, .slice t.a3 t.l3 t.c3, .slice t.a4 t.l4 t.c4] 61)).heap[w.heap.size]? = some (.cells #[.int .u8 t.vc, .int .u32 t.vt, .bool t.vb, .slice t.a3 t.l3 t.c3, .slice t.a4 t.l4 t.c4] 61 (0, 0)) := by rw [alloc_get, if_pos rfl]
    have G1 := TGrows.plain G.inv hg0
    have hnF : ¬ χ.F w.heap.size := fun h => by have := G.inv.lt (G.inv.sub _ h); omega
    have hid := identifier_any G1.inv hty (by omega) hlc hcc hrow
    have hl4 := hty.l4.2.1
    have hl3 := hty.l3.1
    have hl32 := hty.l3.2.1
    have hc3 := hty.l3.2.2
    have hr3 := hty.r3
    unfold LB at hl4 hl32
    unfold TN.agg at hid ⊢
    clear hty hty0 hg0
    obtain ⟨vc, vt, vb, a3, l3, c3, a4, l4, c4⟩ := t
    dsimp only at *
    go_enter Tryz.func126, Tryz.ntmps126
    go_wp2_with fail
    refine hid.mono ?_
    clear hid
    rintro e w2 ⟨ao2, l2, c2, χ2, rfl, b1, b2, b3, b4, b5, G2⟩
    obtain ⟨hE2, hnF2⟩ := G2.keep hE hnF
    have GG := G1.trans G2
    clear hE G1 G2
    have k2 : w2.cell? ⟨w.heap.size, 2, none⟩ = some (.bool vb) := by rw [cell?_blk hE2]; rfl
    go_upto_region 2 with fail
    go_cut [19] (fun p wx => (∃ b, p = .bool b) ∧ wx = w2)
    case first =>
      cases vb
      all_goals go_wp2
      all_goals
        go_meet
        exact ⟨⟨_, rfl⟩, rfl⟩
    case rest =>
      obtain ⟨⟨b, rfl⟩, hw⟩ := hcut
      subst hw
      go_upto_if 19 with fail
      go_cut [2] (fun p wx => (∃ f : Int, p = .int .u8 f) ∧ wx = wc)
      case first =>
        cases b
        all_goals go_wp2
        all_goals
          go_meet
          exact ⟨⟨_, rfl⟩, rfl⟩
      case rest =>
        obtain ⟨⟨f2, rfl⟩, hw⟩ := hcut
        subst hw
        have k3 : wc.cell? ⟨w.heap.size, 3, none⟩ = some (.slice a3 l3 c3) := by rw [cell?_blk hE2]; rfl
        have k4 : wc.cell? ⟨w.heap.size, 4, none⟩ = some (.slice a4 l4 c4) := by rw [cell?_blk hE2]; rfl
        go_wp2_with fail
        refine (clip_val hl3 hl32).mono ?_
        rintro e wd ⟨rfl, hw⟩
        subst hw
        go_wp2_with fail
        have hrow3 : OutRow χ2 a3 l3 l3 := .inr ⟨rfl, hr3.ext GG.ext GG.ext.A (fun _ h => h)⟩
        clear k2 k3 k4 hE2 hnF2
        go_loopg [7, 26] l4 (fun k q p wr => ∃ (i l5 c5 : Nat) (ao5 : Option Addr) (χ5 : Chi), q = .slice ao5 l5 c5 ∧ p = .int .i64 (i : Int) ∧ k + i = l4 ∧ l5 ≤ l3 + sumN ss i + 40 * sumN ns i ∧ l5 ≤ c5 ∧ c5 ≤ CB ∧ OutRow χ5 ao5 l5 c5 ∧ TGrows χ2 wd χ5 wr)
        case atStart => exact ⟨0, l3, l3, a3, χ2, rfl, rfl, rfl, by simp [sumN], Nat.le_refl _, Nat.le_trans hl3 hc3, hrow3, TGrows.plain GG.inv (grown_refl _)⟩
        case round =>
          obtain ⟨i, l5, c5, ao5, χ5, rfl, rfl, hki, hl5, u1, u2, u3, G5⟩ := hrel
          have GA := (G.trans GG).trans G5
          have hk : ∀ b, χ0.A b → wr.heap[b]? = w0.heap[b]? := fun b hb => GA.mem.old b (hi0.lt hb) (hF0 b)
          cases gk with
          | zero =>
            obtain rfl : i = l4 := by omega
            have hil : decide (i < i) = false := by simp
            have hout : RowOK χ5 χ5.F oct ao2 c2 := b5.ext G5.ext G5.ext.F GG.inv.sub
            clear b5
            have hcr := u3.A G5.inv
            by_cases hf : f2 = 1
            · subst hf
              go_wp2_with (first
                | (at_builtin; refine wpList_append1 rfl _ _ rfl G5.inv (ao := ao2) (l := l2) (c := c2) (by go_simp) (by go_simp) ?_ b3 b4 (.inl hout) (by omega) ?_)
                | fail)
              · omega
              intro ao7 c7 χ7 w7 G7 d1 d2 d3
              have hcr7 : RowOK χ7 χ7.A oct ao5 c5 := hcr.ext G7.ext G7.ext.A (fun _ h => h)
              go_wp2_with (at_builtin; refine wpList_appendR rfl _ _ rfl G7.inv (ao := ao7) (l := l2 + 1) (c := c7) (ao2 := ao5) (l2 := l5) (c2 := c5) (by go_simp) (by go_simp) (by omega) d1 d2 d3 u1 hcr7 (by omega) ?_)
              intro ao8 c8 χ8 w8 G8 e1 e2 e3
              go_wp2_with (at_builtin; refine wpList_append2 rfl _ _ rfl G8.inv (ao := ao8) (l := l2 + 1 + l5) (c := c8) (by go_simp) (by go_simp) e1 e2 (.inl e3) (by omega) ?_)
              intro ao9 c9 χ9 w9 G9 g1 g2 g3
              have GZ := (((GG.trans G5).trans G7).trans G8).trans G9
              go_wp2
              exact bodyPost_ret (v := .slice ao9 (l2 + 1 + l5 + 2) c9) (by simp [results, Tryz.results126, go_sem]) rfl ⟨ao9, l2 + 1 + l5 + 2, c9, χ9, rfl, by omega, by omega, g1, g2, g3, GZ⟩
            · have hfb : (f2 == 1) = false := by simpa using hf
              have hsz := size_any G5.inv (n := (l5 : Int)) (f := f2) (by omega) (by omega) (ao := ao2) (l := l2) (c := c2) (by omega) b3 b4 (.inl hout)
              go_wp2_with fail
              refine hsz.mono ?_
              clear hsz
              rintro e w7 ⟨ao7, l7, c7, χ7, rfl, f1, f3, d1, d2, d3, G7⟩
              have hcr7 : RowOK χ7 χ7.A oct ao5 c5 := hcr.ext G7.ext G7.ext.A (fun _ h => h)
              go_wp2_with (at_builtin; refine wpList_appendR rfl _ _ rfl G7.inv (ao := ao7) (l := l7) (c := c7) (ao2 := ao5) (l2 := l5) (c2 := c5) (by go_simp) (by go_simp) (by omega) d1 d2 d3 u1 hcr7 (by omega) ?_)
              intro ao8 c8 χ8 w8 G8 e1 e2 e3
              have GZ := ((GG.trans G5).trans G7).trans G8
              go_wp2
              exact bodyPost_ret (v := .slice ao8 (l7 + l5) c8) (by simp [results, Tryz.results126, go_sem]) rfl ⟨ao8, l7 + l5, c8, χ8, rfl, by omega, by omega, e1, e2, e3, GZ⟩
          | succ k' =>
            have hlt : i < l4 := by omega
            have hil : decide (i < l4) = true := by simp; omega
            have hp := (hps i hlt).1.same (χ' := χ0) (w' := wr) (fun _ h => h) hk
            obtain ⟨b, o, e4, hA, q0, q1, q2, q3, q4⟩ := hp.cells
            have hbw : b < wr.heap.size := Nat.lt_of_lt_of_le (hi0.lt hA) GA.mem.size
            obtain ⟨hsn, hss2⟩ := sumN_one (ns := ns) (ss := ss) hlt
            have hgx := grown_alloc wr (.cells #[.int .u8 (ps i).vc, .int .u32 (ps i).vt, .bool (ps i).vb, .slice (ps i).a3 (ps i).l3 (ps i).c3, .slice (ps i).a4 (ps i).l4 (ps i).c4] 61)
            have Gx := TGrows.plain G5.inv hgx
            have hih := ih (hps i hlt).2 (f := f2) (GA.trans Gx) u1 u2 u3 (by omega)
            unfold TN.agg at hih
            clear hp
            go_wp2_with fail
            refine hih.mono ?_
            clear hih q0 q1 q2 q3 q4
            rintro e w6 ⟨ao6, l6, c6, χ6, rfl, d1, d2, d3, d4, d5, G6⟩
            have GX := (G5.trans Gx).trans G6
            clear Gx G6 G5 hgx
            go_wp2_with fail
            rw [← e4]
            go_roundg k'
            case measure => exact Nat.lt_succ_self k'
            exact ⟨i + 1, l6, c6, ao6, χ6, rfl, rfl, by omega, by simp only [sumN]; omega, d3, d4, .inl d5, GX⟩

end Go.Sx

namespace Go.Sx
open Go Go.Proofs

def BErr (χ : Chi) (w : World) (e : Ending) (w' : World) : Prop :=
  ∃ (ao : Option Addr) (l c : Nat) (χ' : Chi) (r : Int), e = .returned (.tuple #[.slice ao l c, .int .i64 r]) ∧ 0 ≤ r ∧ r ≤ 100 ∧ l ≤ 65536 ∧ l ≤ c ∧ c ≤ CB ∧ RowOK χ' χ'.F oct ao c ∧ TGrows χ w χ' w'

theorem BErr.unshut {χ : Chi} {w w' : World} {e : Ending} (hi : Inv Tryz.prog χ w) (h : BErr χ.shut w e w') : BErr χ w e w' := by
  obtain ⟨ao, l, c, χ', r, rfl, h0, h1, h2, h3, h4, h5, G⟩ := h
  have hg := grown_of_mem G.mem (fun _ h => h)
  have hFn : ∀ b, χ'.F b → w.heap.size ≤ b := fun b hb => by
    rcases G.mem.Fn b hb with h | h
    · exact h.elim
    · exact h
  obtain ⟨k1, k2, k3⟩ := Go.Sx.unshut hi G.ext hg G.inv hFn G.mem.An
  refine ⟨ao, l, c, χ.join χ', r, rfl, h0, h1, h2, h3, h4, ?_, ⟨k1, k2, k3⟩⟩
  exact RowOK.monoS (χ := χ') (fun _ h => .inr h) h5

theorem bErr_nil {χ : Chi} {w w' : World} {r : Int} (hi : Inv Tryz.prog χ w) (hg : w.grownBy w' none) (h0 : 0 ≤ r) (h1 : r ≤ 100) : BErr χ w (.returned (.tuple #[.slice none 0 0, .int .i64 r])) w' :=
  ⟨none, 0, 0, χ, r, rfl, h0, h1, by omega, by omega, by unfold CB; omega, rfl, TGrows.plain hi hg⟩

set_option maxRecDepth 100000 in
set_option maxHeartbeats 1600000 in
theorem encodeAs_shut {χ : Chi} {w : World} {t : TN} {f : Int} (hi : Inv Tryz.prog χ w) (hF : ∀ b, ¬ χ.F b) (ht : TypedN χ t) : Calls Tryz.prog 57 #[t.agg, .int .u8 f] w (BErr χ w) := by
  have hg0 := grown_alloc w (.cells #[.int .u8 t.vc, .int .u32 t.vt, .bool t.vb, .slice t.a3 t.l3 t.c3, .slice t.a4 t.l4 t.c4] 61)
  have hE : (w.alloc (.cells #[.int .u8 t.vc, .int .u32 t.vt, .bool t.vb, .slice t.a3 t.l3 t.c3, .slice t.a4 t.l4 t.c4] 61)).heap[w.heap.size]? = some (.cells #[.int .u8 t.vc, .int .u32 t.vt, .bool t.vb, .slice t.a3 t.l3 t.c3, .slice t.a4 t.l4 t.c4] 61 (0, 0)) := by rw [alloc_get, if_pos rfl]
  have hk1 : ∀ b, χ.A b → (w.alloc (.cells #[.int .u8 t.vc, .int .u32 t.vt, .bool t.vb, .slice t.a3 t.l3 t.c3, .slice t.a4 t.l4 t.c4] 61)).heap[b]? = w.heap[b]? := fun b hb => hg0.block b (hi.lt hb) (by simp)
  have hch := check_any (hi.same hk1) ht
  obtain ⟨k0, k1, k2, k3, k4⟩ := TN.cells5 hE
  unfold TN.agg at hch ⊢
  go_enter Tryz.func57, Tryz.ntmps57
  go_wp2_with fail
  refine hch.mono ?_
  clear hch k0 k1 k2 k3 k4
  rintro e w2 ⟨hg2, r, rfl, r0, r1, hr⟩
  have hE2 := (hg2.block _ (lt_of_blk hE) (by simp)).trans hE
  have hgw2 := grown_trans hg0 hg2
  have hk2 : ∀ b, χ.A b → w2.heap[b]? = w.heap[b]? := fun b hb => hgw2.block b (hi.lt hb) (by simp)
  by_cases h0 : r = 0
  · obtain ⟨n, s, hn, htr1⟩ := hr.1 h0
    subst h0
    have htr : TreeAt χ w 16 n s t := htr1.same (Ext.refl 0 χ) (fun b hb => (hk1 b hb).symm)
    have hlo := long_any 16 (hi.same hk2) (htr.same (Ext.refl 0 χ) hk2) hn
    obtain ⟨k0, k1, k2, k3, k4⟩ := TN.cells5 hE2
    unfold TN.agg at hlo
    clear hr htr1 hE
    by_cases hf : 2 < f
    · have hfb : decide (2 < f) = true := by simpa using hf
      go_wp2
      exact bodyPost_ret (v := .tuple #[.slice none 0 0, .int .i64 1]) (by simp [results, Tryz.results57, go_sem]) rfl (bErr_nil hi hgw2 (by omega) (by omega))
    · have hfb : decide (2 < f) = false := by simpa using hf
      go_wp2_with fail
      refine hlo.mono ?_
      clear hlo k0 k1 k2 k3 k4
      rintro e w3 ⟨hg3, m, rfl, m0, m1⟩
      have hE3 := (hg3.block _ (lt_of_blk hE2) (by simp)).trans hE2
      have hgw3 := grown_trans hgw2 hg3
      have hk3 : ∀ b, χ.A b → w3.heap[b]? = w.heap[b]? := fun b hb => hgw3.block b (hi.lt hb) (by simp)
      by_cases hm : m ≤ 65536
      · have hmb : decide (65536 < m) = false := by simp; omega
        have hmb2 : decide ((65536 : Int) < (m : Int)) = false := by simp; omega
        obtain ⟨k0, k1, k2, k3, k4⟩ := TN.cells5 hE3
        have hi3 := hi.same hk3
        have hen := encode_any hi3 hF 16 (htr.same (Ext.refl 0 χ) hk3) (f := f) (ao := none) (l := 0) (c := 0) (TGrows.plain hi3 (grown_refl _)) (by omega) (by unfold CB; omega) (.inl rfl) (by omega)
        unfold TN.agg at hen
        go_wp2_with fail
        refine hen.mono ?_
        clear hen k0 k1 k2 k3 k4
        rintro e w4 ⟨ao4, l4, c4, χ4, rfl, b1, b2, b3, b4, b5, G4⟩
        by_cases hl : l4 ≤ 65536
        · have hlb : decide (65536 < l4) = false := by simp; omega
          have hlb2 : decide ((65536 : Int) < (l4 : Int)) = false := by simp; omega
          go_wp2_with fail
          refine (clip_val b3 (by omega)).mono ?_
          rintro e w5 ⟨rfl, hw⟩
          subst hw
          go_wp2
          exact bodyPost_ret (v := .tuple #[.slice ao4 l4 l4, .int .i64 0]) (by simp [results, Tryz.results57, go_sem]) rfl ⟨ao4, l4, l4, χ4, 0, rfl, by omega, by omega, hl, Nat.le_refl _, Nat.le_trans b3 b4, oct_short b5 b3, (TGrows.plain hi hgw3).trans G4⟩
        · have hlb : decide (65536 < l4) = true := by simp; omega
          have hlb2 : decide ((65536 : Int) < (l4 : Int)) = true := by simp; omega
          go_wp2
          exact bodyPost_ret (v := .tuple #[.slice none 0 0, .int .i64 3]) (by simp [results, Tryz.results57, go_sem]) rfl (bErr_nil hi (grown_trans hgw3 (grown_of_mem G4.mem hF)) (by omega) (by omega))
      · have hmb : decide (65536 < m) = true := by simp; omega
        have hmb2 : decide ((65536 : Int) < (m : Int)) = true := by simp; omega
        go_wp2
        exact bodyPost_ret (v := .tuple #[.slice none 0 0, .int .i64 3]) (by simp [results, Tryz.results57, go_sem]) rfl (bErr_nil hi hgw3 (by omega) (by omega))
  · have h0b : (r == 0) = false := by simpa using h0
    have h0c : (r != 0) = true := by simpa using h0
    go_wp2
    exact bodyPost_ret (v := .tuple #[.slice none 0 0, .int .i64 r]) (by simp [results, Tryz.results57, go_sem]) rfl (bErr_nil hi hgw2 r0 (by omega))

theorem encodeAs_any {χ : Chi} {w : World} {t : TN} {f : Int} (hi : Inv Tryz.prog χ w) (ht : TypedN χ t) : Calls Tryz.prog 57 #[t.agg, .int .u8 f] w (BErr χ w) :=
  (encodeAs_shut hi.shut (fun _ h => h) ht.shut).mono fun _ _ h => BErr.unshut hi h

set_option maxRecDepth 100000 in
theorem encodeT_any {χ : Chi} {w : World} {t : TN} (hi : Inv Tryz.prog χ w) (ht : TypedN χ t) : Calls Tryz.prog 54 #[t.agg] w (BErr χ w) := by
  have hg0 := grown_alloc w (.cells #[.int .u8 t.vc, .int .u32 t.vt, .bool t.vb, .slice t.a3 t.l3 t.c3, .slice t.a4 t.l4 t.c4] 61)
  have G0 := TGrows.plain hi hg0
  have hx := encodeAs_any (f := 0) G0.inv ht
  unfold TN.agg at hx ⊢
  go_enter Tryz.func54, Tryz.ntmps54
  go_wp2_with fail
  refine hx.mono ?_
  clear hx
  rintro e w2 ⟨ao, l, c, χ', r, rfl, h0, h1, h2, h3, h4, h5, G⟩
  go_wp2
  exact bodyPost_ret (v := .tuple #[.slice ao l c, .int .i64 r]) (by simp [results, Tryz.results54, go_sem]) rfl ⟨ao, l, c, χ', r, rfl, h0, h1, h2, h3, h4, h5, G0.trans G⟩

end Go.Sx
