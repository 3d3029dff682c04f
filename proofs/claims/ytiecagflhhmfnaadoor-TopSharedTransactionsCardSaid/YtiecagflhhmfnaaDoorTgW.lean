/- Part TgW of a proof: helper lemmas; no conditions. -/
import Derived.Test.YtiecagflhhmfnaaDoorTgT
import Derived.Test.YtiecagflhhmfnaaDoorTgH

set_option linter.unusedSimpArgs false
set_option linter.unusedVariables false

/-
  Package transactions: 'Encode'.
-/
namespace Go.Sx
open Go Go.Proofs

def PartsN (χ : Chi) (w : World) (E : Nat) (k : Int) (M : Nat) (mc : Array Value) (m : Nat) (wx : World) : Prop :=
  ∃ χx n v ts, Parts χ w E k χx wx n v ts ∧ n ≤ m ∧ wx.heap[M]? = some (.cells mc 162 (0, 0))

theorem xnumber_cal : callable Tryd.prog 185 = true := by kernel_rfl

set_option maxRecDepth 100000 in
set_option maxHeartbeats 3200000 in
theorem xencode_shut (h211 : FnOK Tryd.prog 211 cTint) {χ : Chi} {w : World} (hi : Inv Tryd.prog χ w) {k x1 x2 x3 : Int} (hk : 0 ≤ k ∧ k ≤ 255) (hx1 : 0 ≤ x1 ∧ x1 ≤ 4294967295) (hx2 : 0 ≤ x2 ∧ x2 ≤ 4294967295) (hx3 : 0 ≤ x3 ∧ x3 ≤ 255) {ao : Option Addr} {l c : Nat} (hl : l ≤ 1099511627776) (hlc : l ≤ c) (hcc : c ≤ CB) (hr : RowOK χ χ.A oct ao c) :
    Calls Tryd.prog 107 #[.agg #[.int .u8 k, .int .u32 x1, .int .u32 x2, .int .u8 x3, .slice ao l c]] w (BErr χ.shut w) := by
  have hg0 := grown_alloc w (.cells #[.int .u8 k, .int .u32 x1, .int .u32 x2, .int .u8 x3, .slice ao l c] 162)
  have hE : (w.alloc (.cells #[.int .u8 k, .int .u32 x1, .int .u32 x2, .int .u8 x3, .slice ao l c] 162)).heap[w.heap.size]? = some (.cells #[.int .u8 k, .int .u32 x1, .int .u32 x2, .int .u8 x3, .slice ao l c] 162 (0, 0)) := by rw [alloc_get, if_pos rfl]
  obtain ⟨iT, hiT, hz0, hz1, hz2⟩ := infoTree'
  go_enter Tryd.func107, Tryd.ntmps107
  go_wp2_with fail
  generalize w.alloc (.cells #[.int .u8 k, .int .u32 x1, .int .u32 x2, .int .u8 x3, .slice ao l c] 162) = w1 at *
  refine (xcheck_any (w := w1) hl).mono ?_
  rintro e w2 ⟨⟨r, rfl, r0, r1⟩, hg2⟩
  have hE2 := (hg2.block _ (lt_of_blk hE) (by simp)).trans hE
  have hgw := grown_trans hg0 hg2
  by_cases hr0 : r = 0
  · subst hr0
    have hME : w.heap.size < w2.heap.size := lt_of_blk hE2
    have hi2 : Inv Tryd.prog χ w2 := hi.same fun b hb => hgw.block b (hi.lt hb) (by simp)
    have g3 := grown_alloc w2 (.cells #[.int .u8 1, .int .u32 k, .bool true, .slice none 0 0, .slice none 0 0] 270)
    have s3 := alloc_size w2 (.cells #[.int .u8 1, .int .u32 k, .bool true, .slice none 0 0, .slice none 0 0] 270)
    have hP0 : Parts χ w2 w2.heap.size k χ (w2.alloc (.cells #[.int .u8 1, .int .u32 k, .bool true, .slice none 0 0, .slice none 0 0] 270)) 0 (.slice none 0 0) [] :=
      ⟨ShutG.plain hi2 g3, Nat.le_refl _, by omega, by rw [alloc_get, if_pos rfl], fun h => by have := hi2.lt h; omega, World.ownsRow_nil _ _ _ _, rfl, fun _ h => (nomatch h), fun _ _ _ _ h => (nomatch h), fun _ h => (nomatch h)⟩
    have hM3 := (g3.block _ hME (by simp)).trans hE2
    have k0 : w2.cell? ⟨w.heap.size, 0, none⟩ = some (.int .u8 k) := by rw [cell?_blk hE2]; rfl
    go_upto_region 5 with fail
    clear k0
    generalize w2.alloc (.cells #[.int .u8 1, .int .u32 k, .bool true, .slice none 0 0, .slice none 0 0] 270) = w3 at *
    have k0 : w3.cell? ⟨w.heap.size, 0, none⟩ = some (.int .u8 k) := by rw [cell?_blk hM3]; rfl
    go_wp2_with fail
    refine (uses_any (w := w3) (k := k)).mono ?_
    rintro e w4 ⟨⟨b1, b2, b3, rfl⟩, hw⟩
    subst hw
    clear k0 hE2
    go_upto_if 25 with fail
    go_cut [] (fun wx => PartsN χ w2 w2.heap.size k w.heap.size #[.int .u8 k, .int .u32 x1, .int .u32 x2, .int .u8 x3, .slice ao l c] 1 wx)
    case first =>
      cases b1 with
      | false =>
        go_wp2
        go_meet
        exact ⟨χ, 0, _, [], hP0, by omega, hM3⟩
      | true =>
        obtain ⟨χq, nq, vq, tq, hP, hnq, hM⟩ : ∃ χq nq vq tq, Parts χ w2 w2.heap.size k χq w4 nq vq tq ∧ nq ≤ 0 ∧ w4.heap[w.heap.size]? = some (.cells #[.int .u8 k, .int .u32 x1, .int .u32 x2, .int .u8 x3, .slice ao l c] 162 (0, 0)) := ⟨χ, 0, _, [], hP0, by omega, hM3⟩
        clear hP0 hM3
        have hwx : IntKind.i64.wrap x1 = x1 := wrap_id (by show (-9223372036854775808 : Int) ≤ _; omega) (by show _ ≤ (9223372036854775807 : Int); omega)
        have Gd := ShutG.plain hP.g.inv (grown_drew0 w4)
        have hnum := xnumber_any h211 (w := w4.drew) Gd.inv (tag := 0) (n := x1) (by omega) (by omega) (by omega) (by omega)
        have hAd : w4.drew.heap[w2.heap.size]? = some (.cells #[.int .u8 1, .int .u32 k, .bool true, .slice none 0 0, vq] 270 (0, 0)) := hP.at_
        have hMd : w4.drew.heap[w.heap.size]? = some (.cells #[.int .u8 k, .int .u32 x1, .int .u32 x2, .int .u8 x3, .slice ao l c] 162 (0, 0)) := hM
        have q4 : w4.drew.cell? ⟨w2.heap.size, 4, none⟩ = some vq := by rw [cell?_blk hAd]; rfl
        have m1 : w4.drew.cell? ⟨w.heap.size, 1, none⟩ = some (.int .u32 x1) := by rw [cell?_blk hMd]; rfl
        have hown : ∀ {w9 : World}, w4.grownBy w9 none → w9.ownsRow (w2.heap.size + 1) 270 5 vq nq (partsV tq) := fun h => hP.own.kept h (by cases hv : vq.ownBlock; exact .inl rfl; exact .inr (by simp))
        have hvE : ∀ b, vq.ownBlock = some b → w2.heap.size + 1 ≤ b ∧ b < w4.heap.size := fun b h => hP.own.lt b h
        go_wp2_with fail
        go_region_law (first
          | (refine step_call2 (vx := .int .u32 0) (vy := .int .i64 x1) rfl 185 (.const (.int .u32 0)) (.tmp 30) #[45, 2] rfl xnumber_cal (by go_simp) (by go_simp; try exact hwx) hnum (fun e w9 h => ?_)
             obtain ⟨t, χ2, he, ht2, G2⟩ := h
             unfold TN.agg at he
             subst he
             have GD := Gd.trans G2
             have hA9 := (G2.grown.block _ (lt_of_blk hAd) (by simp)).trans hAd
             have q9 : w9.cell? ⟨w2.heap.size, 4, none⟩ = some vq := by rw [cell?_blk hA9]; rfl
             have q9a : (w9.alloc (.cells #[.int .u8 t.vc, .int .u32 t.vt, .bool t.vb, .slice t.a3 t.l3 t.c3, .slice t.a4 t.l4 t.c4] 270)).cell? ⟨w2.heap.size, 4, none⟩ = some vq := (World.cell?_alloc_past _ _ _ (lt_of_blk hA9)).trans q9
             have own9 := (hown GD.grown).alloc (.cells #[.int .u8 t.vc, .int .u32 t.vt, .bool t.vb, .slice t.a3 t.l3 t.c3, .slice t.a4 t.l4 t.c4] 270)
             refine .inl ⟨_, rfl, ?_⟩)
          | (have hB9 : (w9.alloc (.cells #[.int .u8 t.vc, .int .u32 t.vt, .bool t.vb, .slice t.a3 t.l3 t.c3, .slice t.a4 t.l4 t.c4] 270)).heap[w9.heap.size]? = some (.cells t.v 270 (0, 0)) := by rw [alloc_get, if_pos rfl]; rfl
             have one9 := parts_one hP (GD.grown) (.cells #[.int .u8 t.vc, .int .u32 t.vt, .bool t.vb, .slice t.a3 t.l3 t.c3, .slice t.a4 t.l4 t.c4] 270)
             obtain ⟨g, cap, w10, hrun, own10, hgr10, hor10, hglt, hone10⟩ := own_append own9 one9 hB9 (by omega) (by have := alloc_size w9 (.cells #[.int .u8 t.vc, .int .u32 t.vt, .bool t.vb, .slice t.a3 t.l3 t.c3, .slice t.a4 t.l4 t.c4] 270); have := lt_of_blk hA9; omega) 268
             refine step_append_run rfl (.tmp 27) (.tmp 32) 268 268 rfl (by go_simp) (by go_simp) hrun ?_
             have HP := Lib.hid (parts_step hP GD ht2 hone10 own10 hgr10 hor10)
             have hkeep : ∀ b, b ≤ w2.heap.size → w10.heap[b]? = w4.heap[b]? := fun b hb => by
               have h1 := lt_of_blk hA9
               have h2 := lt_of_blk hAd
               have h3 := alloc_size w9 (.cells #[.int .u8 t.vc, .int .u32 t.vt, .bool t.vb, .slice t.a3 t.l3 t.c3, .slice t.a4 t.l4 t.c4] 270)
               exact (hgr10.block b (by omega) (fun e => by have := (hvE b e.symm).1; omega)).trans (((grown_alloc w9 _).block b (by omega) (by simp)).trans (GD.grown.block b (Nat.lt_of_le_of_lt hb h2) (by simp)))
             have hA10 := (hkeep _ (Nat.le_refl _)).trans hP.at_
             have hM10 := (hkeep _ (Nat.le_of_lt hME)).trans hM
             have q10 : w10.cell? ⟨w2.heap.size, 4, none⟩ = some vq := by rw [cell?_blk hA10]; rfl
             have f10 : w10.frozen? ⟨w2.heap.size, 4, none⟩ = false := by rw [frozen?_blk hA10]; simp
             have HM : PartsN χ w2 w2.heap.size k w.heap.size #[.int .u8 k, .int .u32 x1, .int .u32 x2, .int .u8 x3, .slice ao l c] 1 (w10.setCell ⟨w2.heap.size, 4, none⟩ (.slice (some ⟨g, 0, none⟩) (nq + 1) cap)) := ⟨χ2, nq + 1, _, _, HP.out, by omega, by rw [setCell_blk hA10, setBlk_get (lt_of_blk hA10), if_neg (by omega)]; exact hM10⟩
             clear HP hrun hone10 one9 hB9 own10 hgr10 hor10 hA10 hM10 hkeep hA9 own9 GD G2))
        all_goals
          go_wp2_with fail
          go_meet
          exact HM
    case rest =>
      obtain ⟨χq, nq, vq, tq, hP, hnq, hM⟩ := hcut
      clear hP0 hM3
      go_upto_if 35 with fail
      go_cut [] (fun wx => PartsN χ w2 w2.heap.size k w.heap.size #[.int .u8 k, .int .u32 x1, .int .u32 x2, .int .u8 x3, .slice ao l c] 2 wx)
      case first =>
        cases b2 with
        | false =>
          go_wp2
          go_meet
          exact ⟨χq, nq, vq, tq, hP, by omega, hM⟩
        | true =>
          have hwx : IntKind.i64.wrap x2 = x2 := wrap_id (by show (-9223372036854775808 : Int) ≤ _; omega) (by show _ ≤ (9223372036854775807 : Int); omega)
          have Gd := ShutG.plain hP.g.inv (grown_drew0 wc)
          have hnum := xnumber_any h211 (w := wc.drew) Gd.inv (tag := 1) (n := x2) (by omega) (by omega) (by omega) (by omega)
          have hAd : wc.drew.heap[w2.heap.size]? = some (.cells #[.int .u8 1, .int .u32 k, .bool true, .slice none 0 0, vq] 270 (0, 0)) := hP.at_
          have hMd : wc.drew.heap[w.heap.size]? = some (.cells #[.int .u8 k, .int .u32 x1, .int .u32 x2, .int .u8 x3, .slice ao l c] 162 (0, 0)) := hM
          have q4 : wc.drew.cell? ⟨w2.heap.size, 4, none⟩ = some vq := by rw [cell?_blk hAd]; rfl
          have m1 : wc.drew.cell? ⟨w.heap.size, 2, none⟩ = some (.int .u32 x2) := by rw [cell?_blk hMd]; rfl
          have hown : ∀ {w9 : World}, wc.grownBy w9 none → w9.ownsRow (w2.heap.size + 1) 270 5 vq nq (partsV tq) := fun h => hP.own.kept h (by cases hv : vq.ownBlock; exact .inl rfl; exact .inr (by simp))
          have hvE : ∀ b, vq.ownBlock = some b → w2.heap.size + 1 ≤ b ∧ b < wc.heap.size := fun b h => hP.own.lt b h
          go_wp2_with fail
          go_region_law (first
            | (refine step_call2 (vx := .int .u32 1) (vy := .int .i64 x2) rfl 185 (.const (.int .u32 1)) (.tmp 40) #[45, 2] rfl xnumber_cal (by go_simp) (by go_simp; try exact hwx) hnum (fun e w9 h => ?_)
               obtain ⟨t, χ2, he, ht2, G2⟩ := h
               unfold TN.agg at he
               subst he
               have GD := Gd.trans G2
               have hA9 := (G2.grown.block _ (lt_of_blk hAd) (by simp)).trans hAd
               have q9 : w9.cell? ⟨w2.heap.size, 4, none⟩ = some vq := by rw [cell?_blk hA9]; rfl
               have q9a : (w9.alloc (.cells #[.int .u8 t.vc, .int .u32 t.vt, .bool t.vb, .slice t.a3 t.l3 t.c3, .slice t.a4 t.l4 t.c4] 270)).cell? ⟨w2.heap.size, 4, none⟩ = some vq := (World.cell?_alloc_past _ _ _ (lt_of_blk hA9)).trans q9
               have own9 := (hown GD.grown).alloc (.cells #[.int .u8 t.vc, .int .u32 t.vt, .bool t.vb, .slice t.a3 t.l3 t.c3, .slice t.a4 t.l4 t.c4] 270)
               refine .inl ⟨_, rfl, ?_⟩)
            | (have hB9 : (w9.alloc (.cells #[.int .u8 t.vc, .int .u32 t.vt, .bool t.vb, .slice t.a3 t.l3 t.c3, .slice t.a4 t.l4 t.c4] 270)).heap[w9.heap.size]? = some (.cells t.v 270 (0, 0)) := by rw [alloc_get, if_pos rfl]; rfl
               have one9 := parts_one hP (GD.grown) (.cells #[.int .u8 t.vc, .int .u32 t.vt, .bool t.vb, .slice t.a3 t.l3 t.c3, .slice t.a4 t.l4 t.c4] 270)
               obtain ⟨g, cap, w10, hrun, own10, hgr10, hor10, hglt, hone10⟩ := own_append own9 one9 hB9 (by omega) (by have := alloc_size w9 (.cells #[.int .u8 t.vc, .int .u32 t.vt, .bool t.vb, .slice t.a3 t.l3 t.c3, .slice t.a4 t.l4 t.c4] 270); have := lt_of_blk hA9; omega) 268
               refine step_append_run rfl (.tmp 37) (.tmp 42) 268 268 rfl (by go_simp) (by go_simp) hrun ?_
               have HP := Lib.hid (parts_step hP GD ht2 hone10 own10 hgr10 hor10)
               have hkeep : ∀ b, b ≤ w2.heap.size → w10.heap[b]? = wc.heap[b]? := fun b hb => by
                 have h1 := lt_of_blk hA9
                 have h2 := lt_of_blk hAd
                 have h3 := alloc_size w9 (.cells #[.int .u8 t.vc, .int .u32 t.vt, .bool t.vb, .slice t.a3 t.l3 t.c3, .slice t.a4 t.l4 t.c4] 270)
                 exact (hgr10.block b (by omega) (fun e => by have := (hvE b e.symm).1; omega)).trans (((grown_alloc w9 _).block b (by omega) (by simp)).trans (GD.grown.block b (Nat.lt_of_le_of_lt hb h2) (by simp)))
               have hA10 := (hkeep _ (Nat.le_refl _)).trans hP.at_
               have hM10 := (hkeep _ (Nat.le_of_lt hME)).trans hM
               have q10 : w10.cell? ⟨w2.heap.size, 4, none⟩ = some vq := by rw [cell?_blk hA10]; rfl
               have f10 : w10.frozen? ⟨w2.heap.size, 4, none⟩ = false := by rw [frozen?_blk hA10]; simp
               have HM : PartsN χ w2 w2.heap.size k w.heap.size #[.int .u8 k, .int .u32 x1, .int .u32 x2, .int .u8 x3, .slice ao l c] 2 (w10.setCell ⟨w2.heap.size, 4, none⟩ (.slice (some ⟨g, 0, none⟩) (nq + 1) cap)) := ⟨χ2, nq + 1, _, _, HP.out, by omega, by rw [setCell_blk hA10, setBlk_get (lt_of_blk hA10), if_neg (by omega)]; exact hM10⟩
               clear HP hrun hone10 one9 hB9 own10 hgr10 hor10 hA10 hM10 hkeep hA9 own9 GD G2))
          all_goals
            go_wp2_with fail
            go_meet
            exact HM
      case rest =>
        clear hP hM hnq
        obtain ⟨χq, nq, vq, tq, hP, hnq, hM⟩ := hcut
        go_upto_if 45 with fail
        go_cut [] (fun wx => PartsN χ w2 w2.heap.size k w.heap.size #[.int .u8 k, .int .u32 x1, .int .u32 x2, .int .u8 x3, .slice ao l c] 3 wx)
        case first =>
          cases b3 with
          | false =>
            have htn : TypedC χq ⟨2, 3, false, ao, l, c, none, 0, 0⟩ := node_typedC (by omega) (by omega) ⟨by omega, by omega⟩ hl hlc hcc (hP.g.row hr)
            have GD := ShutG.plain hP.g.inv (grown_refl wc)
            have q4 : wc.cell? ⟨w2.heap.size, 4, none⟩ = some vq := by rw [cell?_blk hP.at_]; rfl
            have m4 : wc.cell? ⟨w.heap.size, 4, none⟩ = some (.slice ao l c) := by rw [cell?_blk hM]; rfl
            have hlt := lt_of_blk hP.at_
            have hvE : ∀ b, vq.ownBlock = some b → w2.heap.size + 1 ≤ b ∧ b < wc.heap.size := fun b h => hP.own.lt b h
            have own9 := hP.own.alloc (.cells #[.int .u8 2, .int .u32 3, .bool false, .slice ao l c, .slice none 0 0] 270)
            have s9 := alloc_size wc (.cells #[.int .u8 2, .int .u32 3, .bool false, .slice ao l c, .slice none 0 0] 270)
            have hB9 : (wc.alloc (.cells #[.int .u8 2, .int .u32 3, .bool false, .slice ao l c, .slice none 0 0] 270)).heap[wc.heap.size]? = some (.cells (TN.v ⟨2, 3, false, ao, l, c, none, 0, 0⟩) 270 (0, 0)) := by rw [alloc_get, if_pos rfl]; rfl
            have one9 := parts_one hP GD.grown (.cells #[.int .u8 2, .int .u32 3, .bool false, .slice ao l c, .slice none 0 0] 270)
            obtain ⟨g, cap, w10, hrun, own10, hgr10, hor10, hglt, hone10⟩ := own_append own9 one9 hB9 (by omega) (by omega) 268
            have HP := Lib.hid (parts_step hP GD htn hone10 own10 hgr10 hor10)
            have hkeep : ∀ b, b ≤ w2.heap.size → w10.heap[b]? = wc.heap[b]? := fun b hb => (hgr10.block b (by omega) (fun e => by have := (hvE b e.symm).1; omega)).trans ((grown_alloc wc _).block b (by omega) (by simp))
            have hA10 := (hkeep _ (Nat.le_refl _)).trans hP.at_
            have hM10 := (hkeep _ (Nat.le_of_lt hME)).trans hM
            have q10 : w10.cell? ⟨w2.heap.size, 4, none⟩ = some vq := by rw [cell?_blk hA10]; rfl
            have f10 : w10.frozen? ⟨w2.heap.size, 4, none⟩ = false := by rw [frozen?_blk hA10]; simp
            have HM : PartsN χ w2 w2.heap.size k w.heap.size #[.int .u8 k, .int .u32 x1, .int .u32 x2, .int .u8 x3, .slice ao l c] 3 (w10.setCell ⟨w2.heap.size, 4, none⟩ (.slice (some ⟨g, 0, none⟩) (nq + 1) cap)) := ⟨χq, nq + 1, _, _, HP.out, by omega, by rw [setCell_blk hA10, setBlk_get (lt_of_blk hA10), if_neg (by omega)]; exact hM10⟩
            clear HP hone10 one9 hB9 own10 hgr10 hor10 hA10 hM10 hkeep own9
            go_wp2_with (at_builtin; refine wpList_append_run rfl (.tmp 56) (.tmp 60) 268 268 rfl (by go_simp) (by go_simp) hrun ?_)
            go_meet
            exact HM
          | true =>
            have hwx : IntKind.i64.wrap x3 = x3 := wrap_id (by show (-9223372036854775808 : Int) ≤ _; omega) (by show _ ≤ (9223372036854775807 : Int); omega)
            have Gd := ShutG.plain hP.g.inv (grown_drew0 wc)
            have hnum := xnumber_any h211 (w := wc.drew) Gd.inv (tag := 2) (n := x3) (by omega) (by omega) (by omega) (by omega)
            have hAd : wc.drew.heap[w2.heap.size]? = some (.cells #[.int .u8 1, .int .u32 k, .bool true, .slice none 0 0, vq] 270 (0, 0)) := hP.at_
            have hMd : wc.drew.heap[w.heap.size]? = some (.cells #[.int .u8 k, .int .u32 x1, .int .u32 x2, .int .u8 x3, .slice ao l c] 162 (0, 0)) := hM
            have q4 : wc.drew.cell? ⟨w2.heap.size, 4, none⟩ = some vq := by rw [cell?_blk hAd]; rfl
            have m1 : wc.drew.cell? ⟨w.heap.size, 3, none⟩ = some (.int .u8 x3) := by rw [cell?_blk hMd]; rfl
            have hown : ∀ {w9 : World}, wc.grownBy w9 none → w9.ownsRow (w2.heap.size + 1) 270 5 vq nq (partsV tq) := fun h => hP.own.kept h (by cases hv : vq.ownBlock; exact .inl rfl; exact .inr (by simp))
            have hvE : ∀ b, vq.ownBlock = some b → w2.heap.size + 1 ≤ b ∧ b < wc.heap.size := fun b h => hP.own.lt b h
            go_wp2_with fail
            go_region_law (first
              | (refine step_call2 (vx := .int .u32 2) (vy := .int .i64 x3) rfl 185 (.const (.int .u32 2)) (.tmp 50) #[45, 2] rfl xnumber_cal (by go_simp) (by go_simp; try exact hwx) hnum (fun e w9 h => ?_)
                 obtain ⟨t, χ2, he, ht2, G2⟩ := h
                 unfold TN.agg at he
                 subst he
                 have GD := Gd.trans G2
                 have hA9 := (G2.grown.block _ (lt_of_blk hAd) (by simp)).trans hAd
                 have q9 : w9.cell? ⟨w2.heap.size, 4, none⟩ = some vq := by rw [cell?_blk hA9]; rfl
                 have q9a : (w9.alloc (.cells #[.int .u8 t.vc, .int .u32 t.vt, .bool t.vb, .slice t.a3 t.l3 t.c3, .slice t.a4 t.l4 t.c4] 270)).cell? ⟨w2.heap.size, 4, none⟩ = some vq := (World.cell?_alloc_past _ _ _ (lt_of_blk hA9)).trans q9
                 have own9 := (hown GD.grown).alloc (.cells #[.int .u8 t.vc, .int .u32 t.vt, .bool t.vb, .slice t.a3 t.l3 t.c3, .slice t.a4 t.l4 t.c4] 270)
                 refine .inl ⟨_, rfl, ?_⟩)
              | (have hB9 : (w9.alloc (.cells #[.int .u8 t.vc, .int .u32 t.vt, .bool t.vb, .slice t.a3 t.l3 t.c3, .slice t.a4 t.l4 t.c4] 270)).heap[w9.heap.size]? = some (.cells t.v 270 (0, 0)) := by rw [alloc_get, if_pos rfl]; rfl
                 have one9 := parts_one hP (GD.grown) (.cells #[.int .u8 t.vc, .int .u32 t.vt, .bool t.vb, .slice t.a3 t.l3 t.c3, .slice t.a4 t.l4 t.c4] 270)
                 obtain ⟨g, cap, w10, hrun, own10, hgr10, hor10, hglt, hone10⟩ := own_append own9 one9 hB9 (by omega) (by have := alloc_size w9 (.cells #[.int .u8 t.vc, .int .u32 t.vt, .bool t.vb, .slice t.a3 t.l3 t.c3, .slice t.a4 t.l4 t.c4] 270); have := lt_of_blk hA9; omega) 268
                 refine step_append_run rfl (.tmp 47) (.tmp 52) 268 268 rfl (by go_simp) (by go_simp) hrun ?_
                 have HP := Lib.hid (parts_step hP GD ht2 hone10 own10 hgr10 hor10)
                 have hkeep : ∀ b, b ≤ w2.heap.size → w10.heap[b]? = wc.heap[b]? := fun b hb => by
                   have h1 := lt_of_blk hA9
                   have h2 := lt_of_blk hAd
                   have h3 := alloc_size w9 (.cells #[.int .u8 t.vc, .int .u32 t.vt, .bool t.vb, .slice t.a3 t.l3 t.c3, .slice t.a4 t.l4 t.c4] 270)
                   exact (hgr10.block b (by omega) (fun e => by have := (hvE b e.symm).1; omega)).trans (((grown_alloc w9 _).block b (by omega) (by simp)).trans (GD.grown.block b (Nat.lt_of_le_of_lt hb h2) (by simp)))
                 have hA10 := (hkeep _ (Nat.le_refl _)).trans hP.at_
                 have hM10 := (hkeep _ (Nat.le_of_lt hME)).trans hM
                 have q10 : w10.cell? ⟨w2.heap.size, 4, none⟩ = some vq := by rw [cell?_blk hA10]; rfl
                 have f10 : w10.frozen? ⟨w2.heap.size, 4, none⟩ = false := by rw [frozen?_blk hA10]; simp
                 have HM : PartsN χ w2 w2.heap.size k w.heap.size #[.int .u8 k, .int .u32 x1, .int .u32 x2, .int .u8 x3, .slice ao l c] 3 (w10.setCell ⟨w2.heap.size, 4, none⟩ (.slice (some ⟨g, 0, none⟩) (nq + 1) cap)) := ⟨χ2, nq + 1, _, _, HP.out, by omega, by rw [setCell_blk hA10, setBlk_get (lt_of_blk hA10), if_neg (by omega)]; exact hM10⟩
                 clear HP hrun hone10 one9 hB9 own10 hgr10 hor10 hA10 hM10 hkeep hA9 own9 GD G2))
            all_goals
              go_wp2_with fail
              go_meet
              exact HM
        case rest =>
          clear hP hM hnq
          obtain ⟨χq, nq, vq, tq, hP, hnq, hM⟩ := hcut
          have q0 : wc.cell? ⟨w2.heap.size, 0, none⟩ = some (.int .u8 1) := by rw [cell?_blk hP.at_]; rfl
          have q1 : wc.cell? ⟨w2.heap.size, 1, none⟩ = some (.int .u32 k) := by rw [cell?_blk hP.at_]; rfl
          have q2 : wc.cell? ⟨w2.heap.size, 2, none⟩ = some (.bool true) := by rw [cell?_blk hP.at_]; rfl
          have q3 : wc.cell? ⟨w2.heap.size, 3, none⟩ = some (.slice none 0 0) := by rw [cell?_blk hP.at_]; rfl
          have q4 : wc.cell? ⟨w2.heap.size, 4, none⟩ = some vq := by rw [cell?_blk hP.at_]; rfl
          obtain ⟨χe, hen, hFe, Ge⟩ := parts_end hP hk (by omega)
          go_wp2_with fail
          refine hen.mono ?_
          clear hen q0 q1 q2 q3 q4
          rintro e w6 ⟨ao6, l6, c6, χ6, r, rfl, h0, h1, h2, h3, h4, h5, G6⟩
          have hg6 := grown_of_mem G6.mem hFe
          have hgz := grown_trans hgw (grown_trans Ge.grown hg6)
          have hsz := hgw.size
          have hsz2 := Ge.grown.size
          go_wp2
          refine bodyPost_ret (v := .tuple #[.slice ao6 l6 c6, .int .i64 r]) (by simp [results, Tryd.results107, go_sem]) rfl ⟨ao6, l6, c6, χ6, r, rfl, h0, h1, h2, h3, h4, h5, ?_⟩
          refine ⟨⟨fun _ h => absurd h (Nat.not_lt_zero _), fun _ h => h.elim, fun b hb => G6.ext.A b (Ge.A b hb), fun b hb i => (G6.ext.κ b (Ge.A b hb) i).trans (Ge.κ b hb i)⟩, ⟨hgz.os, hgz.tape, hgz.output, hgz.size, fun b hb _ => hgz.block b hb (by simp), fun b hb => ?_, fun b hb => ?_⟩, G6.inv⟩
          · rcases G6.mem.Fn b hb with h | h
            · exact absurd h (hFe b)
            · exact .inr (by omega)
          · rcases G6.mem.An b hb with h | h
            · rcases Ge.An b h with h | h
              · exact .inl h
              · exact .inr (by omega)
            · exact .inr (by omega)
  · have hrb : (r == 0) = false := by simpa using hr0
    have hrc : (r != 0) = true := by simpa using hr0
    go_wp2
    exact bodyPost_ret (v := .tuple #[.slice none 0 0, .int .i64 r]) (by simp [results, Tryd.results107, go_sem]) rfl (bErr_nil hi.shut hgw r0 (by omega))

end Go.Sx

/-
  'transactions.Encode' as a contract.
-/
namespace Go.Sx
open Go Go.Proofs

noncomputable def cXenc : Contract := conOfX Tryd.prog 2000 65536 [] [] [] [] ((Tryd.prog.funcs[107]?).getD default)

theorem tau5v : tau Tryd.prog (.base 5) = oct := by kernel_rfl

set_option maxRecDepth 100000 in
theorem hand107 (h211 : FnOK Tryd.prog 211 cTint) : FnOK Tryd.prog 107 cXenc := by
  have e1 : cXenc.iv = [some (0, 255), some (0, 4294967295), some (0, 4294967295), some (0, 255), some (0, 2000), some (0, 9223372036854775807)] := by kernel_rfl
  have e2 : cXenc.params = [.pv (.agg [.int .u8 (.v 0), .int .u32 (.v 1), .int .u32 (.v 2), .int .u8 (.v 3), .slice false (.base 5) (.v 4) (.v 5)])] := by kernel_rfl
  have e4 : cXenc.riv = [some (0, 65536), some (0, 9223372036854775807), some (-9223372036854775808, 9223372036854775807)] := by kernel_rfl
  have e5 : cXenc.res = .tup [.one (.slice true (.base 5) (.v 6) (.v 7)), .one (.int .i64 (.v 8))] := by kernel_rfl
  have e6 : cXenc.post = [.le (.v 6) (.v 7)] := by kernel_rfl
  have e7 : cXenc.nv = 6 := by simp [Contract.nv, e1]
  intro χ w args hinv ha hi hp _
  rw [e2] at ha
  rw [e1] at hi
  obtain ⟨args⟩ := args
  match args, ha with
  | [a], ⟨ha, _⟩ =>
    obtain ⟨cs, rfl, hcs, _⟩ := ha
    obtain ⟨cs⟩ := cs
    match cs, hcs with
    | [v0, v1, v2, v3, v4], ⟨g0, g1, g2, g3, g4, _⟩ =>
      obtain ⟨ao, l, c, rfl, p1, p2, p3, p4, p5⟩ := g4
      simp only [gSV, T.ev] at g0 g1 g2 g3
      subst g0 g1 g2 g3
      simp only [T.ev] at p1 p2
      obtain ⟨i0, i1, i2, i3, i4, _⟩ := hi
      simp only [SE.ev, tau5v] at p5
      have hl : l ≤ 1099511627776 := by have h : χ.ρ 4 ≤ 2000 := i4.2; omega
      refine (xencode_shut h211 hinv i0 i1 i2 i3 hl p3 p4 p5).mono ?_
      intro e w' hb
      obtain ⟨ao2, l2, c2, χ2, r, rfl, r0, r1, l0, lc, cc, hr, G⟩ := BErr.unshut hinv hb
      have k1 : Ext 6 χ (χ2.withρ (rext χ.ρ 6 [(l2 : Int), (c2 : Int), r])) := ⟨fun i hi => by simp only [Chi.withρ]; exact rext_lt hi, G.ext.F, G.ext.A, G.ext.κ⟩
      unfold CB at cc
      refine ⟨_, _, rfl, by rw [e7]; exact k1, G.mem.withρ _, G.inv.withρ _, ?_, ?_, ?_⟩
      · rw [e5]
        refine ⟨_, rfl, ⟨ao2, l2, c2, rfl, ?_, ?_, lc, cc, ?_⟩, ?_, trivial⟩
        · show (l2 : Int) = rext χ.ρ 6 [(l2 : Int), (c2 : Int), r] 6
          simp [rext]
        · show (c2 : Int) = rext χ.ρ 6 [(l2 : Int), (c2 : Int), r] 7
          simp [rext]
        · simp only [SE.ev, tau5v]; exact hr
        · show Value.int .i64 r = Value.int .i64 (rext χ.ρ 6 [(l2 : Int), (c2 : Int), r] 8)
          simp [rext]
      · rw [e7, e4]
        refine ⟨?_, ?_, ?_, trivial⟩
        all_goals
          simp [Chi.withρ, rext]
          omega
      · rw [e6]
        refine ⟨?_, trivial⟩
        simp [Fm.holds, T.ev, Chi.withρ, rext]
        omega

end Go.Sx


