/- Part ThK of a proof: helper lemmas; no conditions. -/
import Derived.Test.YtnnaehcmchndmaaGreatDoorThI
import Derived.Test.YtnnaehcmchndmaaGreatDoorThE

set_option linter.unusedSimpArgs false
set_option linter.unusedVariables false

namespace Go.Sx
open Go Go.Proofs Go.RowKit

attribute [local go_sem] Oper.semAt_some

def RdR (χ : Chi) (w : World) (N k : Nat) (W : World) : Prop :=
  ∃ χ' ao c, MGrows Tryz.prog χ w χ' W ∧ W.heap[w.heap.size]? = some (.cells #[.slice none 0 0] 139 (0, 0)) ∧ W.heap[w.heap.size + 1]? = some (.cells #[.int .i64 0] 46 (0, 0)) ∧ W.heap[w.heap.size + 1 + 1]? = some (.cells #[.slice ao k c] 139 (0, 0)) ∧
    (∀ i, i < 4 → ¬ χ'.A (w.heap.size + i)) ∧ k ≤ c ∧ c ≤ CB ∧ RowOK χ' χ'.F ruleC ao c ∧ k ≤ N ∧ w.heap.size + 4 ≤ W.heap.size

def RdX (χ : Chi) (w : World) (W : World) : Prop :=
  ∃ χ', MGrows Tryz.prog χ w χ' W ∧ W.heap[w.heap.size]? = some (.cells #[.slice none 0 0] 139 (0, 0)) ∧ W.heap[w.heap.size + 1]? = some (.cells #[.int .i64 4] 46 (0, 0)) ∧ (∀ i, i < 4 → ¬ χ'.A (w.heap.size + i))

theorem notA_noncells {P : Program} {χ : Chi} {W : World} (hi : Inv P χ W) {r : Nat} {o : Obj} (h : W.heap[r]? = some o) (hc : o.isCells = false) : ¬ χ.A r := fun hA => by
  obtain ⟨cs, E, fz, hb, _⟩ := hi.blockA r hA
  rw [h] at hb; cases hb; cases hc

theorem turn_at {w W W' : World} {r i : Nat} {o : Obj} (hg : W.grownBy W' (some r)) (hr : r = w.heap.size + 1 + 1 + 1 ∨ w.heap.size + 4 ≤ r) (hi : i < 3) (h : W.heap[w.heap.size + i]? = some o) : W'.heap[w.heap.size + i]? = some o :=
  (hg.block _ (lt_of_blk' h) (fun e => by cases e; omega)).trans h

theorem RdR.turn {χ : Chi} {w : World} {N k : Nat} {W W' : World} {r B : Nat} (h : RdR χ w N k W) (hg : W.grownBy W' (some r)) (hB : B = w.heap.size + 4) (hr : r = w.heap.size + 1 + 1 + 1 ∨ B ≤ r ∧ ∃ o : Obj, W.heap[r]? = some o ∧ o.isCells = false) : RdR χ w N k W' := by
  subst hB
  obtain ⟨χ', ao, c, G, h2, h3, h4, hA, h5, h6, h7, h8, h9⟩ := h
  have hr' : r = w.heap.size + 1 + 1 + 1 ∨ w.heap.size + 4 ≤ r := hr.imp id And.left
  have hnA : ¬ χ'.A r := by
    rcases hr with rfl | ⟨_, o, ho, hc⟩
    · exact hA 3 (by omega)
    · exact notA_noncells G.inv ho hc
  exact ⟨χ', ao, c, G.turn hg hnA (by omega), turn_at (i := 0) hg hr' (by omega) h2, turn_at (i := 1) hg hr' (by omega) h3, turn_at (i := 2) hg hr' (by omega) h4, hA, h5, h6, h7, h8, Nat.le_trans h9 hg.size⟩

theorem RdX.turn {χ : Chi} {w : World} {W W' : World} {r B : Nat} (h : RdX χ w W) (hg : W.grownBy W' (some r)) (hB : B = w.heap.size + 4) (hr : r = w.heap.size + 1 + 1 + 1 ∨ B ≤ r ∧ ∃ o : Obj, W.heap[r]? = some o ∧ o.isCells = false) : RdX χ w W' := by
  subst hB
  obtain ⟨χ', G, h2, h3, hA⟩ := h
  have hr' : r = w.heap.size + 1 + 1 + 1 ∨ w.heap.size + 4 ≤ r := hr.imp id And.left
  have hnA : ¬ χ'.A r := by
    rcases hr with rfl | ⟨_, o, ho, hc⟩
    · exact hA 3 (by omega)
    · exact notA_noncells G.inv ho hc
  exact ⟨χ', G.turn hg hnA (by omega), turn_at (i := 0) hg hr' (by omega) h2, turn_at (i := 1) hg hr' (by omega) h3, hA⟩

theorem others_grown {A B : World} (h : A.grownBy B none) : KeepsOthers A B := KeepsOthers.of_grownBy h (fun _ _ e => by cases e)

theorem rdx_fin {χ χ' : Chi} {w W W3 : World} {v : Value} {T : TypeId} (G : MGrows Tryz.prog χ w χ' W3) (hk : KeepsOthers W W3) (hA : ∀ i, i < 4 → ¬ χ'.A (w.heap.size + i)) {x0 : Value} (z0 : W3.heap[w.heap.size]? = some (.cells #[x0] 139 (0, 0))) (z1 : W3.heap[w.heap.size + 1]? = some (.cells #[v] T (0, 0))) (hT : T = 46) (B : Nat) :
    KeepsFrom B W ((W3.setCell ⟨w.heap.size, 0, none⟩ (.slice none 0 0)).setCell ⟨w.heap.size + 1, 0, none⟩ (.int .i64 4)) ∧ RdX χ w ((W3.setCell ⟨w.heap.size, 0, none⟩ (.slice none 0 0)).setCell ⟨w.heap.size + 1, 0, none⟩ (.int .i64 4)) := by
  subst hT
  refine ⟨(hk.trans ((KeepsOthers.setCell _ _ _).trans (KeepsOthers.setCell _ _ _))).from B, χ', ?_⟩
  have l0 := lt_of_blk z0
  have l1 := lt_of_blk z1
  rw [setCell_blk z0]
  have z1' : (setBlk W3 w.heap.size (.cells (#[x0].setIfInBounds 0 (.slice none 0 0)) 139 (0, 0))).heap[w.heap.size + 1]? = some (.cells #[v] 46 (0, 0)) := by rw [setBlk_get l0, if_neg (by omega)]; exact z1
  have l1' := lt_of_blk z1'
  rw [setCell_blk z1']
  refine ⟨(G.setNew (Nat.le_refl _) (hA 0 (by omega)) l0 _).setNew (by omega) (hA 1 (by omega)) l1' _, ?_, ?_, hA⟩
  · rw [setBlk_get l1', if_neg (by omega), setBlk_get l0, if_pos rfl]; rfl
  · rw [setBlk_get l1', if_pos rfl]; rfl

def ReadP (χ : Chi) (w : World) (e : Ending) (w' : World) : Prop :=
  ∃ χ' ao l c r, e = .returned (.tuple #[.slice ao l c, .int .i64 r]) ∧ MGrows Tryz.prog χ w χ' w' ∧ l ≤ c ∧ c ≤ CB ∧ RowOK χ' χ'.F ruleC ao c ∧ l ≤ 1048576

theorem read_blocks (w : World) (s : ByteArray) : ∃ w4, (((w.alloc (.cells #[.slice none 0 0] 139)).alloc (.cells #[.int .i64 0] 46)).alloc (.cells #[.slice none 0 0] 139)).alloc (.cells #[.string s] 9) = w4 ∧ w4.heap.size = w.heap.size + 4 ∧ w.grownBy w4 none ∧
    w4.heap[w.heap.size]? = some (.cells #[.slice none 0 0] 139 (0, 0)) ∧ w4.heap[w.heap.size + 1]? = some (.cells #[.int .i64 0] 46 (0, 0)) ∧ w4.heap[w.heap.size + 1 + 1]? = some (.cells #[.slice none 0 0] 139 (0, 0)) ∧ w4.heap[w.heap.size + 1 + 1 + 1]? = some (.cells #[.string s] 9 (0, 0)) := by
  refine ⟨_, rfl, by simp, ?_, ?_, ?_, ?_, ?_⟩
  · exact grown_trans (grown_trans (grown_trans (grown_alloc _ _) (grown_alloc _ _)) (grown_alloc _ _)) (grown_alloc _ _)
  all_goals (simp only [alloc_get, alloc_size]; simp <;> omega)

theorem read_out {χ χ' : Chi} {w W : World} {ao : Option Addr} {l c D : Nat} {r : Int} {tm : Array Value} (G : MGrows Tryz.prog χ w χ' W) (h0 : W.heap[w.heap.size]? = some (.cells #[.slice ao l c] 139 (0, 0))) (h1 : W.heap[w.heap.size + 1]? = some (.cells #[.int .i64 r] 46 (0, 0)))
    (hD : W.heap[D]? = some (.deferred (some []))) (hge : w.heap.size + 4 ≤ D) (hll : l ≤ 1048576) (hlc : l ≤ c) (hcc : c ≤ CB) (hrow : RowOK χ' χ'.F ruleC ao c) (ht2 : tm[2]? = some (.pointer (some ⟨w.heap.size, 0, none⟩))) (ht3 : tm[3]? = some (.pointer (some ⟨w.heap.size + 1, 0, none⟩))) :
    bodyPostM Fence.wide 12 Tryz.prog Tryz.f111 (ReadP χ w) .ret { tmps := tm, defers := [{ target := .collected D, args := #[] }] } W := by
  have hg := grownBy_putObj' W D (.deferred none)
  have G2 := G.turn hg (notA_noncells G.inv hD rfl) (by omega)
  have e0 : (W.putObj D (.deferred none)).heap[w.heap.size]? = some (.cells #[.slice ao l c] 139 (0, 0)) := (World.putObj_heap_other (by omega)).trans h0
  have e1 : (W.putObj D (.deferred none)).heap[w.heap.size + 1]? = some (.cells #[.int .i64 r] 46 (0, 0)) := (World.putObj_heap_other (by omega)).trans h1
  have y0 : (W.putObj D (.deferred none)).cell? ⟨w.heap.size, 0, none⟩ = some (.slice ao l c) := cell?_blk e0 0
  have y1 : (W.putObj D (.deferred none)).cell? ⟨w.heap.size + 1, 0, none⟩ = some (.int .i64 r) := cell?_blk e1 0
  refine ⟨by simp, .inl ⟨_, _, rfl, run_takeDeferred hD, ?_⟩⟩
  refine ⟨.tuple #[.slice ao l c, .int .i64 r], ?_, χ', ao, l, c, r, rfl, G2, hlc, hcc, hrow, hll⟩
  simp [results, Tryz.results111, go_sem, y0, y1, ht2, ht3]

set_option maxRecDepth 100000 in
set_option maxHeartbeats 3200000 in
theorem read_any {χ : Chi} {w : World} {s : ByteArray} (h : RdT χ w) (hF : ∀ b, ¬ χ.F b) (hs : s.size ≤ 1048576) : Calls Tryz.prog 111 #[.string s] w (ReadP χ w) := by
  have hbig : decide (1048576 < (s.size : Int)) = false := by simp; omega
  have hbig2 : decide (1048576 < s.size) = false := by simp; omega
  obtain ⟨w4, hw4, hsz4, hg4, hb0, hb1, hb2, hb3⟩ := read_blocks w s
  refine (callsIn_wide (n := 12)).1 ?_
  refine callsIn_of_wp_marks Tryz.func111 rfl trivial ?_ rfl
  simp only [Tryz.ntmps111, List.size_toArray, List.length_cons, List.length_nil, Nat.reduceAdd, Nat.reduceSub, Array.replicate_succ, Array.replicate_zero, List.push_toArray, List.append_toArray, List.nil_append, List.cons_append]
  gi_wp2_with (refine ⟨trivial, ?_⟩; gi_at_call 219; refine (callsIn_wide.2 lines_any).mono ?_; rintro e w4 ⟨rfl, rfl⟩)
  try rw [hw4]
  have hI0 : Inv Tryz.prog χ w4 := h.inv.same fun b hb => hg4.block b (h.inv.lt hb) (by simp)
  have hnA0 : ∀ i, i < 4 → ¬ χ.A (w.heap.size + i) := fun i _ hA => by have := h.inv.lt hA; omega
  refine wpIn_rangeFunc_L (gf := 291) (lb := #[.pointer (some ⟨w.heap.size + 1 + 1 + 1, 0, none⟩)]) rfl (enters_of Tryz.func291 (by kernel_rfl) rfl) (lines1_any hs) hb3 (fun _ => rfl)
    (RdR χ w s.size) (RdX χ w)
    (fun k A hk => by
      obtain ⟨χ', ao, c, G, _⟩ := hk
      exact (h.grown (grown_of_mem G.mem hF)).mx)
    (fun k A B r hk hg hr => hk.turn hg hsz4 hr) (fun A B r hk hg hr => hk.turn hg hsz4 hr)
    (fun B hg => ?_)
    (fun x => { tmps := #[.string s, undef, .pointer (some ⟨w.heap.size, 0, none⟩), .pointer (some ⟨w.heap.size + 1, 0, none⟩), .pointer (some ⟨w.heap.size + 1 + 1, 0, none⟩), .string x.1, .bool x.2, undef, undef, undef, .string s, .int .i64 s.size, .bool false, .string s,
      .func (.func 291) #[] #[.pointer (some ⟨w.heap.size + 1 + 1 + 1, 0, none⟩)], .string x.1, .bool x.2, undef, undef, undef, undef, undef, undef, undef, undef, undef, undef, undef, undef, undef, undef, undef, undef, undef, undef, undef, undef, undef, undef], defers := [] }) ?assign ?body ?done ?stop
  · have hg := grown_trans hg4 hg
    rename_i hg0
    have keep : ∀ {i : Nat} {o : Obj}, w4.heap[w.heap.size + i]? = some o → B.heap[w.heap.size + i]? = some o := fun {i o} h => (hg0.block _ (lt_of_blk' h) (by simp)).trans h
    exact ⟨χ, none, 0, MGrows.plain h.inv hg, keep (i := 0) hb0, keep (i := 1) hb1, keep (i := 2) hb2, hnA0, Nat.le_refl _, by unfold CB; omega, rfl, Nat.zero_le _, by have := hg0.size; omega⟩
  case assign =>
    intro l x W K hK
    obtain ⟨x1, x2⟩ := x
    dsimp only [encL]
    gi_wp2
    exact hK
  case body =>
    rintro l k ⟨x1, x2⟩ W ⟨χ', ao, c, G, h0, h1, h2, hA, hkc, hcc, hrow, hkN, hsz⟩ hk hx
    have hT := h.grown (grown_of_mem G.mem hF)
    have hln := tline_any (s := x1) hT hx
    dsimp only
    gi_wp2_with (refine ⟨trivial, ?_⟩; gi_at_call 220; refine (CallsIn.inRound l (callsIn_wide.2 hln)).mono ?_)
    clear hln
    rintro e W2 ⟨⟨r, b, rfl, hr⟩, g2⟩
    have g3 := grown_alloc W2 (.cells #[.string r.p, .bool r.a, .string r.wi, .int .u16 r.pt, .int .u8 r.su] 324)
    have g23 := grown_trans g2 g3
    have k3 : ∀ {i : Nat} {o : Obj}, W.heap[w.heap.size + i]? = some o → (W2.alloc (.cells #[.string r.p, .bool r.a, .string r.wi, .int .u16 r.pt, .int .u8 r.su] 324)).heap[w.heap.size + i]? = some o := fun {i o} h => g23.block _ (lt_of_blk' h) (by simp) |>.trans h
    have z0 := k3 (i := 0) h0
    have z1 := k3 (i := 1) h1
    have z2 := k3 (i := 2) h2
    have z2' : (W2.alloc (.cells #[.string r.p, .bool r.a, .string r.wi, .int .u16 r.pt, .int .u8 r.su] 324)).heap[w.heap.size + 1 + 1]? = some (.cells #[.slice ao k c] 139 (0, 0)) := z2
    have z0' : (W2.alloc (.cells #[.string r.p, .bool r.a, .string r.wi, .int .u16 r.pt, .int .u8 r.su] 324)).heap[w.heap.size]? = some (.cells #[.slice none 0 0] 139 (0, 0)) := z0
    have y0 : (W2.alloc (.cells #[.string r.p, .bool r.a, .string r.wi, .int .u16 r.pt, .int .u8 r.su] 324)).cell? ⟨w.heap.size, 0, none⟩ = some (.slice none 0 0) := cell?_blk z0' 0
    have y1 : (W2.alloc (.cells #[.string r.p, .bool r.a, .string r.wi, .int .u16 r.pt, .int .u8 r.su] 324)).cell? ⟨w.heap.size + 1, 0, none⟩ = some (.int .i64 0) := cell?_blk z1 0
    have y2 : (W2.alloc (.cells #[.string r.p, .bool r.a, .string r.wi, .int .u16 r.pt, .int .u8 r.su] 324)).cell? ⟨w.heap.size + 1 + 1, 0, none⟩ = some (.slice ao k c) := cell?_blk z2' 0
    have f0 : (W2.alloc (.cells #[.string r.p, .bool r.a, .string r.wi, .int .u16 r.pt, .int .u8 r.su] 324)).frozen? ⟨w.heap.size, 0, none⟩ = false := by rw [frozen?_blk z0']; simp
    have f1 : (W2.alloc (.cells #[.string r.p, .bool r.a, .string r.wi, .int .u16 r.pt, .int .u8 r.su] 324)).frozen? ⟨w.heap.size + 1, 0, none⟩ = false := by rw [frozen?_blk z1]; simp
    have hnew : (W2.alloc (.cells #[.string r.p, .bool r.a, .string r.wi, .int .u16 r.pt, .int .u8 r.su] 324)).heap[W2.heap.size]? = some (.cells #[.string r.p, .bool r.a, .string r.wi, .int .u16 r.pt, .int .u8 r.su] 324 (0, 0)) := by rw [alloc_get, if_pos rfl]
    have G3 := G.trans (MGrows.plain G.inv g23)
    have hk3 := others_grown g23
    have hret := rdx_fin G3 hk3 hA z0' z1 rfl w4.heap.size
    unfold RV.v
    cases b
    · cases x2
      all_goals
        clear hnew y2 z2 z2'
        gi_wp2
        exact hret
    · cases x2
      · clear hnew y2 z2 z2'
        gi_wp2
        exact hret
      · have m0 : (W2.alloc (.cells #[.string r.p, .bool r.a, .string r.wi, .int .u16 r.pt, .int .u8 r.su] 324)).cell? ⟨W2.heap.size, 0, none⟩ = some (.string r.p) := cell?_blk hnew 0
        have m1 : (W2.alloc (.cells #[.string r.p, .bool r.a, .string r.wi, .int .u16 r.pt, .int .u8 r.su] 324)).cell? ⟨W2.heap.size, 1, none⟩ = some (.bool r.a) := cell?_blk hnew 1
        have m2 : (W2.alloc (.cells #[.string r.p, .bool r.a, .string r.wi, .int .u16 r.pt, .int .u8 r.su] 324)).cell? ⟨W2.heap.size, 2, none⟩ = some (.string r.wi) := cell?_blk hnew 2
        have m3 : (W2.alloc (.cells #[.string r.p, .bool r.a, .string r.wi, .int .u16 r.pt, .int .u8 r.su] 324)).cell? ⟨W2.heap.size, 3, none⟩ = some (.int .u16 r.pt) := cell?_blk hnew 3
        have m4 : (W2.alloc (.cells #[.string r.p, .bool r.a, .string r.wi, .int .u16 r.pt, .int .u8 r.su] 324)).cell? ⟨W2.heap.size, 4, none⟩ = some (.int .u8 r.su) := cell?_blk hnew 4
        have hs3 : (W2.alloc (.cells #[.string r.p, .bool r.a, .string r.wi, .int .u16 r.pt, .int .u8 r.su] 324)).heap.size = W2.heap.size + 1 := alloc_size _ _
        have hnF : ¬ χ'.F (w.heap.size + 2) := fun hF => hA 2 (by omega) (G3.inv.sub _ hF)
        clear hret
        gi_wp2_with (first | (refine wpListIn_append_el ruleEl (by decide) rfl (.tmp 28) (.tmp 30) rfl G3.inv rfl (by first | rfl | (rw [hs3]; rfl)) hkc hcc hrow (by omega) rfl (rule_per hr) ?_; intro ao' c' χ2 w5 G5 h51 h52 h53; have hz := (G5.keep z2 hnF).1; have q2 : w5.cell? ⟨w.heap.size + 1 + 1, 0, none⟩ = some (.slice ao k c) := cell?_blk hz 0; have q2f : w5.frozen? ⟨w.heap.size + 1 + 1, 0, none⟩ = false := (frozen?_blk hz 0).trans (by simp)) | fail)
        refine ⟨(hk3.trans ((G5.others G3.inv).trans (KeepsOthers.setCell _ _ _))).from _, ?_, ?_⟩
        · have hltz := lt_of_blk hz
          rw [setCell_blk hz, setBlk_get hltz, if_neg (by omega)]
          exact (G5.mem.old _ (by have := g23.size; omega) (fun hF => hA 3 (by omega) (G3.inv.sub _ hF))).trans (g23.block _ (by omega) (by simp))
        · have hltz := lt_of_blk hz
          have hAn : ∀ i, i < 4 → ¬ χ2.A (w.heap.size + i) := fun i hi => G5.nA (by have := g23.size; omega) (hA i hi)
          have kz := (G5.keep z0 (fun hF => hA 0 (by omega) (G3.inv.sub _ hF))).1
          have kz1 := (G5.keep z1 (fun hF => hA 1 (by omega) (G3.inv.sub _ hF))).1
          rw [setCell_blk hz]
          refine ⟨χ2, ao', c', (G3.trans G5).setNew (by omega) (hAn 2 (by omega)) hltz _, ?_, ?_, ?_, hAn, h51, h52, h53, by omega, ?_⟩
          · rw [setBlk_get hltz, if_neg (by omega)]; exact kz
          · rw [setBlk_get hltz, if_neg (by omega)]; exact kz1
          · rw [setBlk_get hltz, if_pos rfl]; rfl
          · rw [setBlk_size]; have := g23.size; have := G5.mem.size; omega
  case done =>
    rintro D k W hDge ⟨χ', ao, c, G, h0, h1, h2, hA, hkc, hcc, hrow, hkN, hsz⟩ hD
    obtain ⟨rs, hrs⟩ := rules_read G.inv (hrow.monoS G.inv.sub) hkc
    have hch := checkT_any (c := c) (by omega) hrs
    have y2 : W.cell? ⟨w.heap.size + 1 + 1, 0, none⟩ = some (.slice ao k c) := cell?_blk h2 0
    gi_wp2_with (refine ⟨trivial, ?_⟩; gi_at_call 99; refine (callsIn_wide.2 hch).mono ?_)
    clear hch y2
    rintro e W2 ⟨⟨r, rfl, -, -, -⟩, g2⟩
    have G2 := G.trans (MGrows.plain G.inv g2)
    have k2 : ∀ {b : Nat} {o : Obj}, W.heap[b]? = some o → W2.heap[b]? = some o := fun {b o} h => (g2.block _ (lt_of_blk' h) (by simp)).trans h
    have z0 := k2 h0
    have z1 := k2 h1
    have z2 := k2 h2
    have zD := k2 hD
    have y0 : W2.cell? ⟨w.heap.size, 0, none⟩ = some (.slice none 0 0) := cell?_blk z0 0
    have y1 : W2.cell? ⟨w.heap.size + 1, 0, none⟩ = some (.int .i64 0) := cell?_blk z1 0
    have y2 : W2.cell? ⟨w.heap.size + 1 + 1, 0, none⟩ = some (.slice ao k c) := cell?_blk z2 0
    have f0 : W2.frozen? ⟨w.heap.size, 0, none⟩ = false := (frozen?_blk z0 0).trans (by simp)
    have f1 : W2.frozen? ⟨w.heap.size + 1, 0, none⟩ = false := (frozen?_blk z1 0).trans (by simp)
    have l0 := lt_of_blk z0
    have fin : ∀ (ao2 : Option Addr) (l2 : Nat) (r2 : Int) (tm : Array Value), l2 ≤ 1048576 → l2 ≤ CB → RowOK χ' χ'.F ruleC ao2 l2 → tm[2]? = some (.pointer (some ⟨w.heap.size, 0, none⟩)) → tm[3]? = some (.pointer (some ⟨w.heap.size + 1, 0, none⟩)) →
        bodyPostM Fence.wide 12 Tryz.prog Tryz.f111 (ReadP χ w) .ret { tmps := tm, defers := [{ target := .collected D, args := #[] }] } ((W2.setCell ⟨w.heap.size, 0, none⟩ (.slice ao2 l2 l2)).setCell ⟨w.heap.size + 1, 0, none⟩ (.int .i64 r2)) := by
      intro ao2 l2 r2 tm hl1 hl2 hr2 t2 t3
      rw [setCell_blk z0]
      have z1' : (setBlk W2 w.heap.size (.cells (#[.slice none 0 0].setIfInBounds 0 (.slice ao2 l2 l2)) 139 (0, 0))).heap[w.heap.size + 1]? = some (.cells #[.int .i64 0] 46 (0, 0)) := by rw [setBlk_get l0, if_neg (by omega)]; exact z1
      have l1' := lt_of_blk z1'
      rw [setCell_blk z1']
      refine read_out (r := r2) ((G2.setNew (Nat.le_refl _) (hA 0 (by omega)) l0 _).setNew (by omega) (hA 1 (by omega)) l1' _) ?_ ?_ ?_ (by omega) hl1 (Nat.le_refl _) hl2 hr2 t2 t3
      · rw [setBlk_get l1', if_neg (by omega), setBlk_get l0, if_pos rfl]; rfl
      · rw [setBlk_get l1', if_pos rfl]; rfl
      · rw [setBlk_get l1', if_neg (by omega), setBlk_get l0, if_neg (by omega)]; exact zD
    have hcl := rclip_val (w := W2) (ao := ao) hkc (by omega)
    by_cases hr0 : r = 0
    · have hrb : (r != 0) = false := by simpa using hr0
      clear hrs
      gi_wp2_with (refine ⟨trivial, ?_⟩; gi_at_call 221; refine (callsIn_wide.2 hcl).mono ?_; rintro e w5 ⟨rfl, rfl⟩)
      exact fin _ _ _ _ (by omega) (by omega) (hrow.short hkc) rfl rfl
    · have hrb : (r != 0) = true := by simpa using hr0
      clear hrs hcl
      gi_wp2
      exact fin none 0 r _ (by omega) (by unfold CB; omega) rfl rfl rfl
  case stop =>
    rintro D W hDge ⟨χ', G, h0, h1, hA⟩ hD
    gi_wp2
    exact read_out (ao := none) (c := 0) G h0 h1 hD (by omega) (by omega) (Nat.le_refl _) (by unfold CB; omega) rfl rfl rfl

end Go.Sx
