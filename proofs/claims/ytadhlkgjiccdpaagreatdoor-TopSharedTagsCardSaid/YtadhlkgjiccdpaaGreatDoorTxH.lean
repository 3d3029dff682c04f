/- Part TxH of a proof: helper lemmas; no conditions. -/
import Derived.Test.YtadhlkgjiccdpaaGreatDoorTxF
import Derived.Test.YtadhlkgjiccdpaaGreatDoorTxC
import Derived.Deep.Cut
import Derived.Deep.CutBlock
import Derived.Test.YtadhlkgjiccdpaaGreatDoorTgJ
import Derived.Test.YtadhlkgjiccdpaaGreatDoorTrA

set_option linter.unusedSimpArgs false
set_option linter.unusedVariables false

namespace Go.Sx
open Go Go.Proofs

theorem grown_R {w w' : World} {R : Nat} (h : w.grownBy w' none) : w.grownBy w' (some R) := ⟨h.os, h.tape, h.output, h.size, fun k hk _ => h.block k hk (by simp)⟩

structure RdI (χ : Chi) (w : World) (R : Nat) (s : ByteArray) (cnt : Int) : Prop where
  inv : Inv Tryz.prog χ w
  nA : ¬ χ.A R
  at_ : RdAt w R s cnt
  sz : s.size ≤ 1048576
  cn : 0 ≤ cnt ∧ cnt ≤ 1025
  gl : GlOK χ [(0, tabC)]
  e1 : ∃ u v, w.cell? ⟨2, 0, none⟩ = some (.iface u v)
  e2 : ∃ u v, w.cell? ⟨3, 0, none⟩ = some (.iface u v)
  n1 : R ≠ 2
  n2 : R ≠ 3
  m1 : ¬ χ.F 2
  m2 : ¬ χ.F 3

theorem cell_lt {w : World} {b : Nat} {v : Value} (h : w.cell? ⟨b, 0, none⟩ = some v) : b < w.heap.size := by
  rcases Nat.lt_or_ge b w.heap.size with h' | h'
  · exact h'
  · simp [World.cell?, Array.getElem?_eq_none h'] at h

theorem cell_keptD {χ χ' : Chi} {w w' : World} {R b : Nat} {v : Value} (h : w.cell? ⟨b, 0, none⟩ = some v) (hR : R ≠ b) (hF : ¬ χ.F b) (n : StepD R χ w χ' w') : w'.cell? ⟨b, 0, none⟩ = some v ∧ ¬ χ'.F b := by
  have hlt := cell_lt h
  have hb := n.old b hlt (fun e => hR e.symm) hF
  refine ⟨?_, fun h' => ?_⟩
  · simp only [World.cell?, hb] at h ⊢
    exact h
  · rcases n.Fn _ h' with h1 | h1
    · exact hF h1
    · omega

theorem GlOK.ext0 {χ χ' : Chi} {gl : List (Nat × List CT)} (hx : Ext 0 χ χ') (h : GlOK χ gl) : GlOK χ' gl := fun p hp => ⟨hx.A _ (h p hp).1, fun i => by rw [hx.κ _ (h p hp).1]; exact (h p hp).2 i⟩

theorem RdI.step {χ χ' : Chi} {w w' : World} {R : Nat} {s z : ByteArray} {c c' : Int} (h : RdI χ w R s c) (n : StepD R χ w χ' w') (hi : Inv Tryz.prog χ' w') (ha : RdAt w' R z c') (hz : z.size ≤ 1048576) (hc : 0 ≤ c' ∧ c' ≤ 1025) : RdI χ' w' R z c' where
  inv := hi
  nA := fun hA => by
    rcases n.An _ hA with h1 | h1
    · exact h.nA h1
    · have := lt_of_blk h.at_; omega
  at_ := ha
  sz := hz
  cn := hc
  gl := h.gl.ext0 n.ext
  e1 := by obtain ⟨u, v, e⟩ := h.e1; exact ⟨u, v, (cell_keptD e h.n1 h.m1 n).1⟩
  e2 := by obtain ⟨u, v, e⟩ := h.e2; exact ⟨u, v, (cell_keptD e h.n2 h.m2 n).1⟩
  n1 := h.n1
  n2 := h.n2
  m1 := by obtain ⟨u, v, e⟩ := h.e1; exact (cell_keptD e h.n1 h.m1 n).2
  m2 := by obtain ⟨u, v, e⟩ := h.e2; exact (cell_keptD e h.n2 h.m2 n).2

theorem cell_other {w : World} {g b : Nat} {cs : Array Value} {T : TypeId} {x : Int} {u : TypeId} {v : Value} {o : Obj} (hQ : w.heap[g]? = some (.cells cs T (0, 0))) (h0 : cs[0]? = some (.int .u8 x)) (h : w.cell? ⟨b, 0, none⟩ = some (.iface u v)) : (setBlk w g o).cell? ⟨b, 0, none⟩ = some (.iface u v) := by
  have hne : b ≠ g := fun e => by
    subst e
    rw [cell?_blk hQ] at h
    rw [h0] at h
    cases h
  simp only [World.cell?, setBlk_get (lt_of_blk hQ), if_neg hne] at h ⊢
  exact h

theorem RdI.setNew {χ : Chi} {w : World} {R : Nat} {s : ByteArray} {c : Int} (h : RdI χ w R s c) {g : Nat} {cs : Array Value} {T : TypeId} {x : Int} (hQ : w.heap[g]? = some (.cells cs T (0, 0))) (h0 : cs[0]? = some (.int .u8 x)) (hA : ¬ χ.A g) (hne : R ≠ g) (o : Obj) : RdI χ (setBlk w g o) R s c where
  inv := h.inv.setOwn hA (lt_of_blk hQ) o
  nA := h.nA
  at_ := by unfold RdAt; rw [setBlk_get (lt_of_blk hQ), if_neg hne]; exact h.at_
  sz := h.sz
  cn := h.cn
  gl := h.gl
  e1 := by obtain ⟨u, v, e⟩ := h.e1; exact ⟨u, v, cell_other hQ h0 e⟩
  e2 := by obtain ⟨u, v, e⟩ := h.e2; exact ⟨u, v, cell_other hQ h0 e⟩
  n1 := h.n1
  n2 := h.n2
  m1 := h.m1
  m2 := h.m2

structure RSt (χ : Chi) (w : World) (R : Nat) (χ' : Chi) (wx : World) (z : ByteArray) (c : Int) : Prop where
  new : StepD R χ w χ' wx
  rd : RdI χ' wx R z c
  atQ : wx.heap[w.heap.size]? = some (.cells #[.int .u8 0, .int .u32 0, .bool false, .slice none 0 0, .slice none 0 0] 61 (0, 0))
  nQ : ¬ χ'.A w.heap.size
  lt : R < w.heap.size

theorem RSt.step {χ χ1 χ2 : Chi} {w wx wy : World} {R : Nat} {z z' : ByteArray} {c c' : Int} (h : RSt χ w R χ1 wx z c) (n : StepD R χ1 wx χ2 wy) (hi : Inv Tryz.prog χ2 wy) (ha : RdAt wy R z' c') (hz : z'.size ≤ 1048576) (hc : 0 ≤ c' ∧ c' ≤ 1025) : RSt χ w R χ2 wy z' c' := by
  obtain ⟨q1, q2⟩ := n.keep h.rd.inv h.atQ (by have := h.lt; omega) h.nQ
  exact ⟨h.new.trans n, h.rd.step n hi ha hz hc, q1, q2, h.lt⟩

theorem RSt.stepR {χ χ1 : Chi} {w wx wy : World} {R : Nat} {z z' : ByteArray} {c c' : Int} (h : RSt χ w R χ1 wx z c) (hg : wx.grownBy wy (some R)) (ha : RdAt wy R z' c') (hz : z'.size ≤ 1048576) (hc : 0 ≤ c' ∧ c' ≤ 1025) : RSt χ w R χ1 wy z' c' :=
  h.step (StepD.of_grown hg) (inv_grownD h.rd.inv h.rd.nA hg) ha hz hc

theorem RSt.stepN {χ χ1 : Chi} {w wx wy : World} {R : Nat} {z : ByteArray} {c : Int} (h : RSt χ w R χ1 wx z c) (hg : wx.grownBy wy none) : RSt χ w R χ1 wy z c :=
  h.stepR (grown_R hg) (h.rd.at_.grown hg) h.rd.sz h.rd.cn

theorem RSt.setNew {χ χ1 : Chi} {w wx : World} {R : Nat} {z : ByteArray} {c : Int} (h : RSt χ w R χ1 wx z c) {g : Nat} {cs : Array Value} {T : TypeId} {x : Int} (hQ : wx.heap[g]? = some (.cells cs T (0, 0))) (h0 : cs[0]? = some (.int .u8 x)) (hA : ¬ χ1.A g) (hR : R ≠ g) (hg : w.heap.size < g) (o : Obj) : RSt χ w R χ1 (setBlk wx g o) z c :=
  ⟨h.new.setOther (lt_of_blk hQ) (Nat.le_of_lt hg) o, h.rd.setNew hQ h0 hA hR o, by rw [setBlk_get (lt_of_blk hQ), if_neg (by omega)]; exact h.atQ, h.nQ, h.lt⟩

def EAt (χ : Chi) (w : World) (E : Nat) (t : TN) : Prop := w.heap[E]? = some (.cells #[.int .u8 t.vc, .int .u32 t.vt, .bool t.vb, .slice t.a3 t.l3 t.c3, .slice t.a4 t.l4 t.c4] 61 (0, 0)) ∧ ¬ χ.A E

theorem EAt.step {R : Nat} {χ χ' : Chi} {w w' : World} {E : Nat} {t : TN} (h : EAt χ w E t) (n : StepD R χ w χ' w') (hi : Inv Tryz.prog χ w) (hR : E ≠ R) : EAt χ' w' E t := n.keep hi h.1 hR h.2

theorem RSt.set3 {χ χ1 : Chi} {w wx : World} {R : Nat} {z : ByteArray} {c : Int} (h : RSt χ w R χ1 wx z c) {E : Nat} {t : TN} (hE : EAt χ1 wx E t) (hR : R ≠ E) (hg : w.heap.size < E) (a : Option Addr) (l cc : Nat) :
    RSt χ w R χ1 (wx.setCell ⟨E, 3, none⟩ (.slice a l cc)) z c ∧ EAt χ1 (wx.setCell ⟨E, 3, none⟩ (.slice a l cc)) E ⟨t.vc, t.vt, t.vb, a, l, cc, t.a4, t.l4, t.c4⟩ := by
  have e : wx.setCell ⟨E, 3, none⟩ (.slice a l cc) = setBlk wx E (.cells #[.int .u8 t.vc, .int .u32 t.vt, .bool t.vb, .slice a l cc, .slice t.a4 t.l4 t.c4] 61 (0, 0)) := by rw [setCell_blk hE.1]; rfl
  rw [e]
  exact ⟨h.setNew hE.1 rfl hE.2 hR hg _, by rw [setBlk_get (lt_of_blk hE.1), if_pos rfl], hE.2⟩

theorem RSt.set4 {χ χ1 : Chi} {w wx : World} {R : Nat} {z : ByteArray} {c : Int} (h : RSt χ w R χ1 wx z c) {E : Nat} {t : TN} (hE : EAt χ1 wx E t) (hR : R ≠ E) (hg : w.heap.size < E) (a : Option Addr) (l cc : Nat) :
    RSt χ w R χ1 (wx.setCell ⟨E, 4, none⟩ (.slice a l cc)) z c ∧ EAt χ1 (wx.setCell ⟨E, 4, none⟩ (.slice a l cc)) E ⟨t.vc, t.vt, t.vb, t.a3, t.l3, t.c3, a, l, cc⟩ := by
  have e : wx.setCell ⟨E, 4, none⟩ (.slice a l cc) = setBlk wx E (.cells #[.int .u8 t.vc, .int .u32 t.vt, .bool t.vb, .slice t.a3 t.l3 t.c3, .slice a l cc] 61 (0, 0)) := by rw [setCell_blk hE.1]; rfl
  rw [e]
  exact ⟨h.setNew hE.1 rfl hE.2 hR hg _, by rw [setBlk_get (lt_of_blk hE.1), if_pos rfl], hE.2⟩

theorem RSt.set2 {χ χ1 : Chi} {w wx : World} {R : Nat} {z : ByteArray} {c : Int} (h : RSt χ w R χ1 wx z c) {E : Nat} {t : TN} (hE : EAt χ1 wx E t) (hR : R ≠ E) (hg : w.heap.size < E) (b : Bool) :
    RSt χ w R χ1 (wx.setCell ⟨E, 2, none⟩ (.bool b)) z c ∧ EAt χ1 (wx.setCell ⟨E, 2, none⟩ (.bool b)) E ⟨t.vc, t.vt, b, t.a3, t.l3, t.c3, t.a4, t.l4, t.c4⟩ := by
  have e : wx.setCell ⟨E, 2, none⟩ (.bool b) = setBlk wx E (.cells #[.int .u8 t.vc, .int .u32 t.vt, .bool b, .slice t.a3 t.l3 t.c3, .slice t.a4 t.l4 t.c4] 61 (0, 0)) := by rw [setCell_blk hE.1]; rfl
  rw [e]
  exact ⟨h.setNew hE.1 rfl hE.2 hR hg _, by rw [setBlk_get (lt_of_blk hE.1), if_pos rfl], hE.2⟩

theorem RSt.setL {χ χ1 : Chi} {w wx : World} {R : Nat} {z : ByteArray} {c : Int} (h : RSt χ w R χ1 wx z c) {L m i : Nat} {V : Int} (hrow : RowOK χ1 χ1.F oct (some ⟨L, 0, none⟩) m) (hi : i < m) (hV : 0 ≤ V ∧ V ≤ 255) (hR : R ≠ L) (hg : w.heap.size < L) (hs : 2 < w.heap.size) (hr : 3 < w.heap.size) :
    RSt χ w R χ1 (wx.setCell ⟨L, i, none⟩ (.int .u8 V)) z c ∧ ∀ E t, E ≠ L → EAt χ1 wx E t → EAt χ1 (wx.setCell ⟨L, i, none⟩ (.int .u8 V)) E t := by
  obtain ⟨h1, h2, h3⟩ := hrow
  have hk : χ1.κ L i = some (.int .u8 0 255) := by
    have := h3 i (by show i < m * 1; omega)
    rw [show (0 : Nat) + i = i from Nat.zero_add i] at this
    rw [this]
    have e : i % oct.length = 0 := Nat.mod_one i
    rw [e]; rfl
  have hinv := inv_setCell (P := Tryz.prog) (v := .int .u8 V) h.rd.inv h2 hk ⟨V, rfl, hV.1, hV.2⟩
  obtain ⟨cs, E', fz, hblk, _⟩ := h.rd.inv.read (fr := true) h2
  have hlt := lt_of_blk hblk
  have hw : ∀ k, k ≠ L → (wx.setCell ⟨L, i, none⟩ (.int .u8 V)).heap[k]? = wx.heap[k]? := fun k hk => by
    rw [setCell_blk hblk, setBlk_get hlt, if_neg hk]
  have hN : StepD R χ w χ1 (wx.setCell ⟨L, i, none⟩ (.int .u8 V)) := by
    rw [setCell_blk hblk]; exact h.new.setOther hlt (Nat.le_of_lt hg) _
  have hc : ∀ b v, b < w.heap.size → wx.cell? ⟨b, 0, none⟩ = some v → (wx.setCell ⟨L, i, none⟩ (.int .u8 V)).cell? ⟨b, 0, none⟩ = some v := fun b v hb e => by
    simp only [World.cell?, hw b (by omega)] at e ⊢
    exact e
  refine ⟨⟨hN, ⟨hinv.1, h.rd.nA, (hw R hR).trans h.rd.at_, h.rd.sz, h.rd.cn, h.rd.gl, ?_, ?_, h.rd.n1, h.rd.n2, h.rd.m1, h.rd.m2⟩, (hw _ (by omega)).trans h.atQ, h.nQ, h.lt⟩, fun E t hE hat => ⟨(hw E hE).trans hat.1, hat.2⟩⟩
  · obtain ⟨u, v, e⟩ := h.rd.e1; exact ⟨u, v, hc _ _ hs e⟩
  · obtain ⟨u, v, e⟩ := h.rd.e2; exact ⟨u, v, hc _ _ hr e⟩

theorem ib_cal : callable Tryz.prog 173 = true := by kernel_rfl

def ElemR (χ : Chi) (w : World) (R : Nat) (s : ByteArray) (cnt : Int) (e : Ending) (w' : World) : Prop :=
  ∃ (χ' : Chi) (t : TN) (z : ByteArray) (c' : Int) (b : Bool), e = .returned (.tuple #[t.agg, .bool b]) ∧ TF χ' t ∧ RdI χ' w' R z c' ∧ StepD R χ w χ' w' ∧ (b = true → z.size + 1 ≤ s.size ∧ c' ≤ 1024 ∧ cnt + 1 ≤ c')

theorem relement_cal : callable Tryz.prog 139 = true := by kernel_rfl

theorem TF.zero (χ : Chi) : TF χ ⟨0, 0, false, none, 0, 0, none, 0, 0⟩ := ⟨⟨Int.le_refl _, by show (0 : Int) ≤ 255; omega⟩, ⟨Int.le_refl _, by show (0 : Int) ≤ 4294967295; omega⟩, ⟨Nat.le_refl _, by show 0 ≤ LB; unfold LB; omega, by show 0 ≤ CB; unfold CB; omega⟩, rfl, ⟨Nat.le_refl _, by show 0 ≤ LB; unfold LB; omega, by show 0 ≤ CB; unfold CB; omega⟩, rfl⟩

theorem relem_fin {χ : Chi} {w : World} {R : Nat} {s : ByteArray} {cnt : Int} {χ6 : Chi} {w6 : World} {t6 : TN} {z : ByteArray} {c : Int} {b : Bool} {tm : Array Value} (S : RSt χ w R χ6 w6 z c) (hT : TF χ6 t6) (hb : b = true → z.size + 1 ≤ s.size ∧ c ≤ 1024 ∧ cnt + 1 ≤ c) (ht4 : tm[4]? = some (.pointer (some ⟨w.heap.size, 0, none⟩))) (ht5 : tm[5]? = some (.bool b)) :
    bodyPost Tryz.prog Tryz.f139 (ElemR χ w R s cnt) Exit.ret { tmps := tm, defers := [] } (((((w6.setCell ⟨w.heap.size, 0, none⟩ (.int .u8 t6.vc)).setCell ⟨w.heap.size, 1, none⟩ (.int .u32 t6.vt)).setCell ⟨w.heap.size, 2, none⟩ (.bool t6.vb)).setCell ⟨w.heap.size, 3, none⟩ (.slice t6.a3 t6.l3 t6.c3)).setCell ⟨w.heap.size, 4, none⟩ (.slice t6.a4 t6.l4 t6.c4)) := by
  have hR := S.atQ
  rw [set5 hR]
  have hlt := lt_of_blk hR
  have hRf : (setBlk w6 w.heap.size (.cells #[.int .u8 t6.vc, .int .u32 t6.vt, .bool t6.vb, .slice t6.a3 t6.l3 t6.c3, .slice t6.a4 t6.l4 t6.c4] 61 (0, 0))).heap[w.heap.size]? = some (.cells #[.int .u8 t6.vc, .int .u32 t6.vt, .bool t6.vb, .slice t6.a3 t6.l3 t6.c3, .slice t6.a4 t6.l4 t6.c4] 61 (0, 0)) := by rw [setBlk_get hlt, if_pos rfl]
  have hN := S.new.setOther hlt (Nat.le_refl _) (.cells #[.int .u8 t6.vc, .int .u32 t6.vt, .bool t6.vb, .slice t6.a3 t6.l3 t6.c3, .slice t6.a4 t6.l4 t6.c4] 61 (0, 0))
  have hne : R ≠ w.heap.size := by have := S.lt; omega
  have hd := S.rd.setNew hR rfl S.nQ hne (.cells #[.int .u8 t6.vc, .int .u32 t6.vt, .bool t6.vb, .slice t6.a3 t6.l3 t6.c3, .slice t6.a4 t6.l4 t6.c4] 61 (0, 0))
  generalize setBlk w6 w.heap.size (.cells #[.int .u8 t6.vc, .int .u32 t6.vt, .bool t6.vb, .slice t6.a3 t6.l3 t6.c3, .slice t6.a4 t6.l4 t6.c4] 61 (0, 0)) = wf at *
  obtain ⟨y0, y1, y2, y3, y4⟩ := TN.cells5 hRf
  refine bodyPost_ret (v := .tuple #[t6.agg, .bool b]) ?_ rfl ⟨χ6, t6, z, c, b, rfl, hT, hd, hN, hb⟩
  simp [results, Tryz.results139, go_sem, y0, y1, y2, y3, y4, ht4, ht5, TN.agg]

theorem size_pos_of_ne {s : ByteArray} (h : s.toList.isEmpty = false) : 1 ≤ s.size := by
  rcases Nat.eq_zero_or_pos s.size with h0 | h0
  · have e : s.data = #[] := Array.eq_empty_of_size_eq_zero h0
    rw [Lib.toList_data, e] at h
    cases h
  · exact h0

theorem frozen5 {w : World} {b : Nat} {cs : Array Value} {T : TypeId} (h : w.heap[b]? = some (.cells cs T (0, 0))) : w.frozen? ⟨b, 0, none⟩ = false ∧ w.frozen? ⟨b, 1, none⟩ = false ∧ w.frozen? ⟨b, 2, none⟩ = false ∧ w.frozen? ⟨b, 3, none⟩ = false ∧ w.frozen? ⟨b, 4, none⟩ = false := by
  have f : ∀ i, w.frozen? ⟨b, i, none⟩ = false := fun i => by rw [frozen?_blk h]; simp
  exact ⟨f 0, f 1, f 2, f 3, f 4⟩

set_option maxRecDepth 100000 in
set_option maxHeartbeats 6400000 in
theorem relement_any : ∀ k dp : Nat, dp + k = 17 → ∀ {χ : Chi} {w : World} {R : Nat} {s : ByteArray} {cnt : Int}, RdI χ w R s cnt → cnt ≤ 1024 → Calls Tryz.prog 139 #[.pointer (some ⟨R, 0, none⟩), .int .i64 (dp : Int)] w (ElemR χ w R s cnt) := by
  intro k
  induction k with
  | zero =>
    intro dp hdp χ w R s cnt h hc
    obtain rfl : dp = 17 := by omega
    have g1 := grown_alloc w (.cells #[.int .u8 0, .int .u32 0, .bool false, .slice none 0 0, .slice none 0 0] 61)
    have hQ1 : (w.alloc (.cells #[.int .u8 0, .int .u32 0, .bool false, .slice none 0 0, .slice none 0 0] 61)).heap[w.heap.size]? = some (.cells #[.int .u8 0, .int .u32 0, .bool false, .slice none 0 0, .slice none 0 0] 61 (0, 0)) := by rw [alloc_get, if_pos rfl]
    have hRlt : R < w.heap.size := lt_of_blk h.at_
    have hq1 : 2 < w.heap.size := by obtain ⟨_, _, e⟩ := h.e1; exact cell_lt e
    have hq2 : 3 < w.heap.size := by obtain ⟨_, _, e⟩ := h.e2; exact cell_lt e
    have S1 : RSt χ w R χ (w.alloc (.cells #[.int .u8 0, .int .u32 0, .bool false, .slice none 0 0, .slice none 0 0] 61)) s cnt := ⟨StepD.of_grown (grown_R g1), h.step (StepD.of_grown (grown_R g1)) (h.inv.same fun b hb => g1.block b (h.inv.lt hb) (by simp)) (h.at_.grown g1) h.sz h.cn, hQ1, fun hA => by have := h.inv.lt hA; omega, hRlt⟩
    go_enter Tryz.func139, Tryz.ntmps139
    go_upto_region 1 with fail
    generalize w.alloc (.cells #[.int .u8 0, .int .u32 0, .bool false, .slice none 0 0, .slice none 0 0] 61) = w1 at *
    have c1 := S1.rd.at_.c1
    have f1 := S1.rd.at_.f 1
    have hcn := h.cn
    have hwr : IntKind.i64.wrap (cnt + 1) = cnt + 1 := wrap_id (by show (-9223372036854775808 : Int) ≤ _; omega) (by show _ ≤ (9223372036854775807 : Int); omega)
    obtain ⟨hat2, hg2⟩ := S1.rd.at_.put1 (cnt + 1)
    have S2 := S1.stepR hg2 hat2 S1.rd.sz (by omega)
    go_upto_region 2 with fail
    clear c1 f1 hat2 hg2 S1 hQ1 g1
    generalize w1.setCell ⟨R, 1, none⟩ (.int .i64 (cnt + 1)) = w2 at *
    have c0 := S2.rd.at_.c0
    have c1 := S2.rd.at_.c1
    obtain ⟨q, hq⟩ : ∃ q, s.toList.isEmpty = q := ⟨_, rfl⟩
    cases q with
    | true =>
      obtain ⟨m0, m1, m2, m3, m4⟩ := TN.cells5 (t := ⟨0, 0, false, none, 0, 0, none, 0, 0⟩) S2.atQ
      dsimp only at m0 m1 m2 m3 m4
      obtain ⟨f0, f1, f2, f3, f4⟩ := frozen5 S2.atQ
      have hs := Lib.hid S2
      clear S2
      go_wp2_with fail
      exact relem_fin (b := false) (t6 := ⟨0, 0, false, none, 0, 0, none, 0, 0⟩) hs.out (TF.zero _) nofun rfl rfl
    | false =>
      obtain ⟨m0, m1, m2, m3, m4⟩ := TN.cells5 (t := ⟨0, 0, false, none, 0, 0, none, 0, 0⟩) S2.atQ
      dsimp only at m0 m1 m2 m3 m4
      obtain ⟨f0, f1, f2, f3, f4⟩ := frozen5 S2.atQ
      have hs := Lib.hid S2
      clear S2
      go_wp2_with fail
      exact relem_fin (b := false) (t6 := ⟨0, 0, false, none, 0, 0, none, 0, 0⟩) hs.out (TF.zero _) nofun rfl rfl
  | succ k ih =>
    intro dp hdp χ w R s cnt h hc
    have g1 := grown_alloc w (.cells #[.int .u8 0, .int .u32 0, .bool false, .slice none 0 0, .slice none 0 0] 61)
    have hQ1 : (w.alloc (.cells #[.int .u8 0, .int .u32 0, .bool false, .slice none 0 0, .slice none 0 0] 61)).heap[w.heap.size]? = some (.cells #[.int .u8 0, .int .u32 0, .bool false, .slice none 0 0, .slice none 0 0] 61 (0, 0)) := by rw [alloc_get, if_pos rfl]
    have hRlt : R < w.heap.size := lt_of_blk h.at_
    have hq1 : 2 < w.heap.size := by obtain ⟨_, _, e⟩ := h.e1; exact cell_lt e
    have hq2 : 3 < w.heap.size := by obtain ⟨_, _, e⟩ := h.e2; exact cell_lt e
    have S1 : RSt χ w R χ (w.alloc (.cells #[.int .u8 0, .int .u32 0, .bool false, .slice none 0 0, .slice none 0 0] 61)) s cnt := ⟨StepD.of_grown (grown_R g1), h.step (StepD.of_grown (grown_R g1)) (h.inv.same fun b hb => g1.block b (h.inv.lt hb) (by simp)) (h.at_.grown g1) h.sz h.cn, hQ1, fun hA => by have := h.inv.lt hA; omega, hRlt⟩
    go_enter Tryz.func139, Tryz.ntmps139
    go_upto_region 1 with fail
    generalize w.alloc (.cells #[.int .u8 0, .int .u32 0, .bool false, .slice none 0 0, .slice none 0 0] 61) = w1 at *
    have c1 := S1.rd.at_.c1
    have f1 := S1.rd.at_.f 1
    have hcn := h.cn
    have hwr : IntKind.i64.wrap (cnt + 1) = cnt + 1 := wrap_id (by show (-9223372036854775808 : Int) ≤ _; omega) (by show _ ≤ (9223372036854775807 : Int); omega)
    obtain ⟨hat2, hg2⟩ := S1.rd.at_.put1 (cnt + 1)
    have S2 := S1.stepR hg2 hat2 S1.rd.sz (by omega)
    go_upto_region 2 with fail
    clear c1 f1 hat2 hg2 S1 hQ1 g1
    generalize w1.setCell ⟨R, 1, none⟩ (.int .i64 (cnt + 1)) = w2 at *
    have c0 := S2.rd.at_.c0
    have c1 := S2.rd.at_.c1
    have hdp1 : (dp : Int) ≤ 17 := by omega
    obtain ⟨q, hq⟩ : ∃ q, s.toList.isEmpty = q := ⟨_, rfl⟩
    have hb16 : decide (16 < (dp : Int)) = false := by simp; omega
    have hb16n : decide (16 < dp) = false := by simp; omega
    cases q with
    | true =>
        obtain ⟨m0, m1, m2, m3, m4⟩ := TN.cells5 (t := ⟨0, 0, false, none, 0, 0, none, 0, 0⟩) S2.atQ
        dsimp only at m0 m1 m2 m3 m4
        obtain ⟨f0, f1, f2, f3, f4⟩ := frozen5 S2.atQ
        have hs := Lib.hid S2
        clear S2 ih
        go_wp2_with fail
        exact relem_fin (b := false) (t6 := ⟨0, 0, false, none, 0, 0, none, 0, 0⟩) hs.out (TF.zero _) nofun rfl rfl
    | false =>
      have hs1 := size_pos_of_ne hq
      by_cases h24 : 1024 < cnt + 1
      · have hb24 : decide (1024 < cnt + 1) = true := by simpa using h24
        obtain ⟨m0, m1, m2, m3, m4⟩ := TN.cells5 (t := ⟨0, 0, false, none, 0, 0, none, 0, 0⟩) S2.atQ
        dsimp only at m0 m1 m2 m3 m4
        obtain ⟨f0, f1, f2, f3, f4⟩ := frozen5 S2.atQ
        have hs := Lib.hid S2
        clear S2 ih
        go_wp2_with fail
        exact relem_fin (b := false) (t6 := ⟨0, 0, false, none, 0, 0, none, 0, 0⟩) hs.out (TF.zero _) nofun rfl rfl
      · have hb24 : decide (1024 < cnt + 1) = false := by simpa using h24
        have i0 : (0 : Int) < (s.size : Int) := by omega
        have i1 : 0 < s.size := by omega
        have i2 : (s.size : Int) ≤ 1048576 := by have := S2.rd.sz; omega
        go_wp2_with fail
        refine indexbyte_call.mono ?_
        rintro e w3 ⟨⟨cl, rfl, cl0, cl1⟩, rfl⟩
        have cl3 : cl ≤ 3 := by have : ((({ data := #[117, 97, 99, 112] } : ByteArray).size : Nat) : Int) = 4 := rfl; omega
        have f0 := S2.rd.at_.f 0
        obtain ⟨hat3, hg3⟩ := S2.rd.at_.put0 (s.extract 1 s.size)
        have hz1 : (s.extract 1 s.size).size + 1 ≤ s.size := by rw [ByteArray.size_extract]; have := Nat.min_le_right s.size s.size; omega
        have S3 := S2.stepR hg3 hat3 (by have := S2.rd.sz; omega) S2.rd.cn
        have j1 : (1 : Int) ≤ (s.size : Int) := by omega
        go_upto_region 6 with fail
        clear c0 c1 f0 hat3 hg3 S2 j1
        generalize w3.setCell ⟨R, 0, none⟩ (.string (s.extract 1 s.size)) = w4 at *
        generalize hs3 : s.extract 1 s.size = s3 at *
        have hru := fun p => rrun_any (p := p) S3.rd.at_ S3.rd.sz
        go_wp2_with fail
        refine (hru _).mono ?_
        clear hru
        rintro e w5 ⟨⟨o, z5, rfl, ho, hz5, hat5⟩, hg5⟩
        have S5 := S3.stepR hg5 hat5 (by have := S3.rd.sz; omega) S3.rd.cn
        have hsz3 := S3.rd.sz
        clear S3 hat5 hg5
        obtain ⟨u1, v1, e1⟩ := S5.rd.e1
        obtain ⟨u2, v2, e2⟩ := S5.rd.e2
        have hat := atoi_call (s := o) (by omega) e1 e2
        clear e1 e2
        go_wp2_with fail
        refine hat.mono ?_
        clear hat
        rintro e w6 ⟨⟨n, ev, rfl, n0, n1, hev⟩, hg6⟩
        have S6 := S5.stepN hg6
        clear S5 hg6
        by_cases hcl : cl < 0
        · have hclb : decide (cl < 0) = true := by simpa using hcl
          obtain ⟨m0, m1, m2, m3, m4⟩ := TN.cells5 (t := ⟨0, 0, false, none, 0, 0, none, 0, 0⟩) S6.atQ
          dsimp only at m0 m1 m2 m3 m4
          obtain ⟨f0, f1, f2, f3, f4⟩ := frozen5 S6.atQ
          have hs := Lib.hid S6
          clear S6 ih
          go_wp2_with fail
          exact relem_fin (b := false) (t6 := ⟨0, 0, false, none, 0, 0, none, 0, 0⟩) hs.out (TF.zero _) nofun rfl rfl
        · have hclb : decide (cl < 0) = false := by simpa using hcl
          rcases hev with rfl | ⟨ty, vx, rfl⟩
          · have hit := itoa_call (z := n) S6.rd.inv S6.rd.gl n0 n1
            go_wp2_with fail
            refine hit.mono ?_
            clear hit
            rintro e w7 ⟨⟨y, _, rfl, _⟩, hg7⟩
            have S7 := S6.stepN hg7
            clear S6 hg7
            by_cases hy : Lib.itoa n = o.toList
            · by_cases hn : 2097151 < n
              · have hnb : decide (2097151 < n) = true := by simpa using hn
                obtain ⟨m0, m1, m2, m3, m4⟩ := TN.cells5 (t := ⟨0, 0, false, none, 0, 0, none, 0, 0⟩) S7.atQ
                dsimp only at m0 m1 m2 m3 m4
                obtain ⟨f0, f1, f2, f3, f4⟩ := frozen5 S7.atQ
                have hs := Lib.hid S7
                clear S7 ih
                go_wp2_with fail
                exact relem_fin (b := false) (t6 := ⟨0, 0, false, none, 0, 0, none, 0, 0⟩) hs.out (TF.zero _) nofun rfl rfl
              · have hnb : decide (2097151 < n) = false := by simpa using hn
                have hw8 : IntKind.u8.wrap cl = cl := wrap_id (by show (0 : Int) ≤ _; omega) (by show _ ≤ (255 : Int); omega)
                have hw32 : 0 ≤ n % 4294967296 ∧ n % 4294967296 ≤ 4294967295 := by omega
                go_upto_region 11 with fail
                generalize n % 4294967296 = nt at *
                have g8 := grown_alloc w7 (.cells #[.int .u8 cl, .int .u32 nt, .bool false, .slice none 0 0, .slice none 0 0] 61)
                have hE8 : (w7.alloc (.cells #[.int .u8 cl, .int .u32 nt, .bool false, .slice none 0 0, .slice none 0 0] 61)).heap[w7.heap.size]? = some (.cells #[.int .u8 cl, .int .u32 nt, .bool false, .slice none 0 0, .slice none 0 0] 61 (0, 0)) := by rw [alloc_get, if_pos rfl]
                have hEA : ¬ χ.A w7.heap.size := fun hA => by have := S7.rd.inv.lt hA; omega
                have hER : R ≠ w7.heap.size := by have := lt_of_blk S7.rd.at_; omega
                have hEQ : w.heap.size < w7.heap.size := lt_of_blk S7.atQ
                have S8 := S7.stepN g8
                have hclr : 0 ≤ cl ∧ cl ≤ 255 := by omega
                clear S7 g8 hy hn hnb hcl hclb
                generalize w7.alloc (.cells #[.int .u8 cl, .int .u32 nt, .bool false, .slice none 0 0, .slice none 0 0] 61) = w8 at *
                generalize hEe : w7.heap.size = E at *
                have hsk := fun p hp => skip_any (p := p) S8.rd.at_ hp
                go_wp2_with fail
                refine Calls.mono (hsk _ ?_) ?_
                · decide
                clear hsk
                rintro e w9 ⟨⟨z9, b9, rfl, hz9, hzb9, hat9⟩, hg9⟩
                have hE9 : EAt χ w9 E ⟨cl, nt, false, none, 0, 0, none, 0, 0⟩ := ⟨(hg9.block _ (lt_of_blk hE8) (fun e => hER (Option.some.inj e).symm)).trans hE8, hEA⟩
                have S9 := S8.stepR hg9 hat9 (by have := S8.rd.sz; omega) S8.rd.cn
                clear S8 hE8 hg9 hat9
                cases b9 with
                | true =>
                  clear ih
                  have hru := fun p => rrun_any (p := p) S9.rd.at_ S9.rd.sz
                  have hsz9 := S9.rd.sz
                  have hinv9 := S9.rd.inv
                  go_wp2_with fail
                  refine (hru _).mono ?_
                  clear hru
                  rintro e w10 ⟨⟨l, z10, rfl, hl, hz10, hat10⟩, hg10⟩
                  have S10 := S9.stepR hg10 hat10 (by omega) S9.rd.cn
                  have hE10 := hE9.step (StepD.of_grown (χ := χ) hg10) hinv9 (fun e => hER e.symm)
                  clear S9 hE9 hg10 hat10
                  obtain ⟨w11, χ11, hmk, G11, hrow, hL11, g11⟩ := make_row S10.rd.inv und46 infoB5' (l := l.size / 2) (by decide) (by decide) (by omega) (by omega)
                  have N11 : StepD R χ w10 χ11 w11 := StepD.of_mem G11.ext G11.mem
                  have S11 := S10.step N11 G11.inv (S10.rd.at_.grown g11) S10.rd.sz S10.rd.cn
                  have hE11 := hE10.step N11 S10.rd.inv (fun e => hER e.symm)
                  have hdv : ((l.size / 2 : Nat) : Int) = (l.size : Int) / 2 := by omega
                  rw [hdv] at hmk
                  have k3 : w11.cell? ⟨E, 3, none⟩ = some (.slice none 0 0) := by rw [cell?_blk hE11.1]; rfl
                  have f3 : w11.frozen? ⟨E, 3, none⟩ = false := by rw [frozen?_blk hE11.1]; simp
                  obtain ⟨S12, hE12⟩ := S11.set3 hE11 hER hEQ (some ⟨w10.heap.size, 0, none⟩) (l.size / 2) (l.size / 2)
                  have hLQ : w.heap.size < w10.heap.size := lt_of_blk S10.atQ
                  have hLR : R ≠ w10.heap.size := by have := lt_of_blk S10.rd.at_; omega
                  have hLE : E ≠ w10.heap.size := by have := lt_of_blk hE10.1; omega
                  clear S10 hE10 S11 hE11 G11 N11 g11
                  go_upto_block 0 with fail
                  generalize w11.setCell ⟨E, 3, none⟩ (.slice (some ⟨w10.heap.size, 0, none⟩) (l.size / 2) (l.size / 2)) = w12 at *
                  clear hmk k3 f3
                  generalize hm : l.size / 2 = m at *
                  generalize w10.heap.size = L at *
                  go_cut [] (fun wx => RSt χ w R χ11 wx z10 (cnt + 1) ∧ EAt χ11 wx E ⟨cl, nt, false, some ⟨L, 0, none⟩, m, m, none, 0, 0⟩)
                  case first =>
                    go_wp2_with fail
                    go_loopg [95] m (fun k q wr => ∃ i : Nat, i + k = m ∧ q = .int .i64 (i : Int) ∧ RSt χ w R χ11 wr z10 (cnt + 1) ∧ EAt χ11 wr E ⟨cl, nt, false, some ⟨L, 0, none⟩, m, m, none, 0, 0⟩)
                    case atStart => exact ⟨0, by simp, rfl, S12, hE12⟩
                    case round =>
                      clear S12 hE12
                      obtain ⟨i, him, rfl, S, hE⟩ := hrel
                      cases gk with
                      | zero =>
                        have hil : decide ((i : Int) < (m : Int)) = false := by simp; omega
                        have hil2 : decide (i < m) = false := by simp; omega
                        go_wp2_with fail
                        go_meet
                        exact ⟨S, hE⟩
                      | succ k' =>
                        have hil : decide ((i : Int) < (m : Int)) = true := by simp; omega
                        have hil2 : decide (i < m) = true := by simp; omega
                        have i0 : (0 : Int) ≤ (i : Int) := by omega
                        have i1 : (i : Int) < (m : Int) := by omega
                        have i2 : (i : Int) ≤ 1099511627776 := by omega
                        have i3 : 2 * i < l.size := by omega
                        have i4 : 2 * i + 1 < l.size := by omega
                        have i5 : (2 * (i : Int)) < (l.size : Int) := by omega
                        have i6 : (2 * (i : Int) + 1) < (l.size : Int) := by omega
                        have i7 : (0 : Int) ≤ 2 * (i : Int) := by omega
                        have i8 : (0 : Int) ≤ 2 * (i : Int) + 1 := by omega
                        have wm : IntKind.i64.wrap (2 * (i : Int)) = 2 * (i : Int) := wrap_id (by show (-9223372036854775808 : Int) ≤ _; omega) (by show _ ≤ (9223372036854775807 : Int); omega)
                        have wm1 : IntKind.i64.wrap (2 * (i : Int) + 1) = 2 * (i : Int) + 1 := wrap_id (by show (-9223372036854775808 : Int) ≤ _; omega) (by show _ ≤ (9223372036854775807 : Int); omega)
                        have k3 : wr.drew.cell? ⟨E, 3, none⟩ = some (.slice (some ⟨L, 0, none⟩) m m) := by rw [cell?_blk (show wr.drew.heap[E]? = _ from hE.1)]; rfl
                        obtain ⟨_, _, eL, _, _, hrL⟩ := frow_read S.rd.inv (l := m) (i := i) hrow (Nat.le_refl _) (by omega) (by decide)
                        cases eL
                        obtain ⟨_, fL, vL, xL, _⟩ := hrL 0 _ rfl
                        have eoff : 0 + i * oct.length + 0 = i := by show 0 + i * 1 + 0 = i; omega
                        rw [eoff] at fL xL
                        have xL' : wr.drew.cell? ⟨L, i, none⟩ = some vL := xL
                        have fL' : wr.drew.frozen? ⟨L, i, none⟩ = false := fL
                        clear hrL eoff
                        go_wp2_with fail
                        go_region_law (first
                          | (refine step_call2 rfl 173 (.const (.string { data := #[48, 49, 50, 51, 52, 53, 54, 55, 56, 57, 97, 98, 99, 100, 101, 102] })) (.tmp 104) #[9, 5] rfl ib_cal rfl (by go_simp <;> rfl) indexbyte_call (fun e w2 h => ?_)
                             obtain ⟨⟨r1, rfl, _, _⟩, rfl⟩ := h
                             refine .inl ⟨_, rfl, ?_⟩)
                          | (refine step_call2 rfl 173 (.const (.string { data := #[48, 49, 50, 51, 52, 53, 54, 55, 56, 57, 97, 98, 99, 100, 101, 102] })) (.tmp 111) #[9, 5] rfl ib_cal rfl (by go_simp <;> rfl) indexbyte_call (fun e w2 h => ?_)
                             obtain ⟨⟨r2, rfl, _, _⟩, rfl⟩ := h
                             refine .inl ⟨_, rfl, ?_⟩))
                        all_goals
                          go_wp2_with fail
                          go_roundg k'
                          case measure => exact Nat.lt_succ_self k'
                          refine ⟨i + 1, by omega, by go_num, ((S.stepN (grown_drew0 wr)).setL (i := i) hrow (by omega) ?_ hLR hLQ hq1 hq2).1, ((S.stepN (grown_drew0 wr)).setL (i := i) hrow (by omega) ?_ hLR hLQ hq1 hq2).2 E _ hLE hE⟩
                          all_goals first
                            | exact wrap_range .u8 _
                            | omega
                  case rest =>
                    obtain ⟨S13, hE13⟩ := hcut
                    have hT : TF χ11 ⟨cl, nt, false, some ⟨L, 0, none⟩, m, m, none, 0, 0⟩ := ⟨hclr, hw32, ⟨Nat.le_refl _, by show m ≤ LB; unfold LB; omega, by show m ≤ CB; unfold CB; omega⟩, hrow, ⟨Nat.le_refl _, by show 0 ≤ LB; unfold LB; omega, by show 0 ≤ CB; unfold CB; omega⟩, rfl⟩
                    obtain ⟨k0, k1, k2, k3, k4⟩ := TN.cells5 hE13.1
                    obtain ⟨m0, m1, m2, m3, m4⟩ := TN.cells5 (t := ⟨0, 0, false, none, 0, 0, none, 0, 0⟩) S13.atQ
                    dsimp only at m0 m1 m2 m3 m4 k0 k1 k2 k3 k4
                    obtain ⟨f0, f1, f2, f3, f4⟩ := frozen5 S13.atQ
                    have hs := Lib.hid S13
                    clear S13 hE13 S12 hE12
                    have hf1 : z10.size + 1 ≤ s.size := by omega
                    have hf2 : cnt + 1 ≤ 1024 := by omega
                    have hfin : z10.size + 1 ≤ s.size ∧ cnt + 1 ≤ 1024 ∧ cnt + 1 ≤ cnt + 1 := ⟨hf1, hf2, Int.le_refl _⟩
                    go_wp2_with fail
                    exact relem_fin (t6 := ⟨cl, nt, false, some ⟨L, 0, none⟩, m, m, none, 0, 0⟩) hs.out hT (fun _ => hfin) rfl rfl
                | false =>
                  have k2 : w9.cell? ⟨E, 2, none⟩ = some (.bool false) := by rw [cell?_blk hE9.1]; rfl
                  have f2 : w9.frozen? ⟨E, 2, none⟩ = false := by rw [frozen?_blk hE9.1]; simp
                  obtain ⟨S10, hE10⟩ := S9.set2 hE9 hER hEQ true
                  dsimp only at hE10
                  have hle9 : z9.size + 1 ≤ s.size := by omega
                  clear S9 hE9
                  go_upto_region 21 with fail
                  clear k2 f2
                  generalize w9.setCell ⟨E, 2, none⟩ (.bool true) = w10 at *
                  have hsk := fun p hp => skip_any (p := p) S10.rd.at_ hp
                  go_wp2_with fail
                  refine Calls.mono (hsk _ ?_) ?_
                  · decide
                  clear hsk
                  rintro e w11 ⟨⟨z11, b11, rfl, hz11, _, hat11⟩, hg11⟩
                  have hE11 := hE10.step (StepD.of_grown (χ := χ) hg11) S10.rd.inv (fun e => hER e.symm)
                  have S11 := S10.stepR hg11 hat11 (by have := S10.rd.sz; omega) S10.rd.cn
                  clear S10 hE10 hg11 hat11
                  cases b11 with
                  | false =>
                    obtain ⟨m0, m1, m2, m3, m4⟩ := TN.cells5 (t := ⟨0, 0, false, none, 0, 0, none, 0, 0⟩) S11.atQ
                    dsimp only at m0 m1 m2 m3 m4
                    obtain ⟨f0, f1, f2, f3, f4⟩ := frozen5 S11.atQ
                    have hs := Lib.hid S11
                    clear S11 ih
                    go_wp2_with fail
                    exact relem_fin (b := false) (t6 := ⟨0, 0, false, none, 0, 0, none, 0, 0⟩) hs.out (TF.zero _) nofun rfl rfl
                  | true =>
                    go_upto_block 2 with fail
                    have hwdp : IntKind.i64.wrap ((dp : Int) + 1) = (dp : Int) + 1 := wrap_id (by show (-9223372036854775808 : Int) ≤ _; omega) (by show _ ≤ (9223372036854775807 : Int); omega)
                    go_cut [] (fun wx => ∃ (χr : Chi) (zr : ByteArray) (cr : Int) (a4 : Option Addr) (l4 c4 : Nat), RSt χ w R χr wx zr cr ∧ EAt χr wx E ⟨cl, nt, true, none, 0, 0, a4, l4, c4⟩ ∧ l4 ≤ c4 ∧ c4 ≤ CB ∧ RowOK χr χr.F treeC a4 c4 ∧ zr.size + 1 ≤ s.size ∧ cr ≤ 1024 ∧ cnt + 1 ≤ cr ∧ (l4 : Int) ≤ cr)
                    case first =>
                      go_wp2_with fail
                      go_loopg [] s.size (fun k wx => ∃ (χr : Chi) (zr : ByteArray) (cr : Int) (a4 : Option Addr) (l4 c4 : Nat), RSt χ w R χr wx zr cr ∧ EAt χr wx E ⟨cl, nt, true, none, 0, 0, a4, l4, c4⟩ ∧ l4 ≤ c4 ∧ c4 ≤ CB ∧ RowOK χr χr.F treeC a4 c4 ∧ zr.size + 1 ≤ s.size ∧ cr ≤ 1024 ∧ cnt + 1 ≤ cr ∧ (l4 : Int) ≤ cr ∧ zr.size ≤ k)
                      case atStart => exact ⟨χ, z11, cnt + 1, none, 0, 0, S11, hE11, Nat.le_refl _, by unfold CB; omega, rfl, by omega, by omega, Int.le_refl _, by omega, by omega⟩
                      case round =>
                        clear S11 hE11
                        obtain ⟨χr, zr, cr, a4, l4, c4, Sr, hEr, hlc, hcc, hr4, hzs, hcr, hcr2, hl4c, hzk⟩ := hrel
                        have hsk := fun p hp => skip_any (p := p) Sr.rd.at_ hp
                        go_wp2_with fail
                        refine Calls.mono (hsk _ ?_) ?_
                        · decide
                        clear hsk
                        rintro e w2 ⟨⟨z2, b2, rfl, hz2, hzb2, hat2⟩, hg2⟩
                        have hE2 := hEr.step (StepD.of_grown (χ := χr) hg2) Sr.rd.inv (fun e => hER e.symm)
                        have S2 := Sr.stepR hg2 hat2 (by have := Sr.rd.sz; omega) Sr.rd.cn
                        clear Sr hEr hg2 hat2
                        cases b2 with
                        | true =>
                          go_wp2_with fail
                          go_meet
                          exact ⟨χr, z2, cr, a4, l4, c4, S2, hE2, hlc, hcc, hr4, by omega, hcr, hcr2, hl4c⟩
                        | false =>
                          have k4 : w2.cell? ⟨E, 4, none⟩ = some (.slice a4 l4 c4) := by rw [cell?_blk hE2.1]; rfl
                          by_cases hl0 : 0 < l4
                          · have hlb : decide (0 < (l4 : Int)) = true := by simp; omega
                            have hlb2 : decide (0 < l4) = true := by simp; omega
                            have hsk := fun p hp => skip_any (p := p) S2.rd.at_ hp
                            go_wp2_with fail
                            refine Calls.mono (hsk _ ?_) ?_
                            · decide
                            clear hsk k4
                            rintro e w3 ⟨⟨z3, b3, rfl, hz3, hzb3, hat3⟩, hg3⟩
                            have hE3 := hE2.step (StepD.of_grown (χ := χr) hg3) S2.rd.inv (fun e => hER e.symm)
                            have S3 := S2.stepR hg3 hat3 (by have := S2.rd.sz; omega) S2.rd.cn
                            clear S2 hE2 hg3 hat3
                            cases b3 with
                            | false =>
                              obtain ⟨m0, m1, m2, m3, m4⟩ := TN.cells5 (t := ⟨0, 0, false, none, 0, 0, none, 0, 0⟩) S3.atQ
                              dsimp only at m0 m1 m2 m3 m4
                              obtain ⟨f0, f1, f2, f3, f4⟩ := frozen5 S3.atQ
                              have hs := Lib.hid S3
                              clear S3
                              go_wp2_with fail
                              exact relem_fin (b := false) (t6 := ⟨0, 0, false, none, 0, 0, none, 0, 0⟩) hs.out (TF.zero _) nofun rfl rfl
                            | true =>
                              have hRd := S3.rd
                              have hih := ih (dp + 1) (by omega) hRd (by omega)
                              rw [show ((dp + 1 : Nat) : Int) = (dp : Int) + 1 from rfl] at hih
                              clear ih
                              go_wp2_with fail
                              refine hih.mono ?_
                              clear hih
                              rintro e w6 ⟨χ5, t5, z5b, c5, b5, rfl, hT5, hd5, hN5, hb5⟩
                              have SX := S3.step hN5 hd5.inv hd5.at_ hd5.sz hd5.cn
                              have hEX := hE3.step hN5 hRd.inv (fun e => hER e.symm)
                              have hr5 : RowOK χ5 χ5.F treeC a4 c4 := RowOK.ext hN5.ext hN5.ext.F hRd.inv.sub hr4
                              clear S3 hE3 hN5
                              cases b5 with
                              | false =>
                                unfold TN.agg
                                have g7 := grown_alloc w6 (.cells #[.int .u8 t5.vc, .int .u32 t5.vt, .bool t5.vb, .slice t5.a3 t5.l3 t5.c3, .slice t5.a4 t5.l4 t5.c4] 61)
                                have SY := SX.stepN g7
                                go_upto_region 28 with fail
                                clear SX g7
                                generalize w6.alloc (.cells #[.int .u8 t5.vc, .int .u32 t5.vt, .bool t5.vb, .slice t5.a3 t5.l3 t5.c3, .slice t5.a4 t5.l4 t5.c4] 61) = w7 at *
                                obtain ⟨m0, m1, m2, m3, m4⟩ := TN.cells5 (t := ⟨0, 0, false, none, 0, 0, none, 0, 0⟩) SY.atQ
                                dsimp only at m0 m1 m2 m3 m4
                                obtain ⟨f0, f1, f2, f3, f4⟩ := frozen5 SY.atQ
                                have hs := Lib.hid SY
                                clear SY
                                go_wp2_with fail
                                exact relem_fin (b := false) (t6 := ⟨0, 0, false, none, 0, 0, none, 0, 0⟩) hs.out (TF.zero _) nofun rfl rfl
                              | true =>
                                obtain ⟨hb51, hb52, hb53⟩ := hb5 rfl
                                unfold TN.agg
                                have g7 := grown_alloc w6 (.cells #[.int .u8 t5.vc, .int .u32 t5.vt, .bool t5.vb, .slice t5.a3 t5.l3 t5.c3, .slice t5.a4 t5.l4 t5.c4] 61)
                                have hP7 : (w6.alloc (.cells #[.int .u8 t5.vc, .int .u32 t5.vt, .bool t5.vb, .slice t5.a3 t5.l3 t5.c3, .slice t5.a4 t5.l4 t5.c4] 61)).heap[w6.heap.size]? = some (.cells #[.int .u8 t5.vc, .int .u32 t5.vt, .bool t5.vb, .slice t5.a3 t5.l3 t5.c3, .slice t5.a4 t5.l4 t5.c4] 61 (0, 0)) := by rw [alloc_get, if_pos rfl]
                                have SY := SX.stepN g7
                                have hEY := hEX.step (StepD.of_grown (D := R) (grown_R g7)) SX.rd.inv (fun e => hER e.symm)
                                go_upto_region 29 with fail
                                clear SX hEX g7
                                generalize w6.alloc (.cells #[.int .u8 t5.vc, .int .u32 t5.vt, .bool t5.vb, .slice t5.a3 t5.l3 t5.c3, .slice t5.a4 t5.l4 t5.c4] 61) = w7 at *
                                obtain ⟨ao8, c8, χ8, w8, hrun, hx8, hm8, hi8, q1, q2, q3⟩ := append_tree SY.rd.inv (l := l4) (by omega) hlc hcc hr5 hT5 59
                                have N8 : StepD R χ5 w7 χ8 w8 := StepD.of_mem hx8 hm8
                                have hat8 : RdAt w8 R z5b c5 := (hm8.old R (lt_of_blk SY.rd.at_) (fun hF => SY.rd.nA (SY.rd.inv.sub _ hF))).trans SY.rd.at_
                                have S8 := SY.step N8 hi8 hat8 SY.rd.sz SY.rd.cn
                                have hE8 := hEY.step N8 SY.rd.inv (fun e => hER e.symm)
                                have k4 : w7.cell? ⟨E, 4, none⟩ = some (.slice a4 l4 c4) := by rw [cell?_blk hEY.1]; rfl
                                obtain ⟨x0, x1, x2, x3, x4⟩ := TN.cells5 hP7
                                have k48 : w8.cell? ⟨E, 4, none⟩ = some (.slice a4 l4 c4) := by rw [cell?_blk hE8.1]; rfl
                                have f48 : w8.frozen? ⟨E, 4, none⟩ = false := by rw [frozen?_blk hE8.1]; simp
                                obtain ⟨S9, hE9⟩ := S8.set4 hE8 hER hEQ ao8 (l4 + 1) c8
                                have hEl := lt_of_blk hEY.1
                                dsimp only at hE9
                                clear S8 hE8 N8 hat8 SY hEY hx8 hm8 hi8
                                obtain ⟨k', rfl⟩ : ∃ k', gk = k' + 1 := ⟨gk - 1, by omega⟩
                                have hlenI : ((l4 : Int) + 1) = ((l4 + 1 : Nat) : Int) := rfl
                                unfold treeV at hrun
                                go_wp2_with (at_builtin; refine wpList_append_run (vs := .slice a4 l4 c4) (vx := .slice (some ⟨w7.heap.size, 0, none⟩) 1 1) rfl (.tmp 151) (.tmp 153) 59 59 rfl (by go_simp) (by go_simp) hrun ?_)
                                go_roundg k'
                                case measure => exact Nat.lt_succ_self k'
                                exact ⟨χ8, z5b, c5, ao8, l4 + 1, c8, S9, hE9, q1, q2, q3, by omega, hb52, by omega, by omega, by omega⟩
                          · have hlb : decide (0 < (l4 : Int)) = false := by simp; omega
                            have hlb2 : decide (0 < l4) = false := by simp; omega
                            have hRd := S2.rd
                            have hih := ih (dp + 1) (by omega) hRd (by omega)
                            rw [show ((dp + 1 : Nat) : Int) = (dp : Int) + 1 from rfl] at hih
                            clear ih
                            go_wp2_with fail
                            refine hih.mono ?_
                            clear hih
                            rintro e w6 ⟨χ5, t5, z5b, c5, b5, rfl, hT5, hd5, hN5, hb5⟩
                            have SX := S2.step hN5 hd5.inv hd5.at_ hd5.sz hd5.cn
                            have hEX := hE2.step hN5 hRd.inv (fun e => hER e.symm)
                            have hr5 : RowOK χ5 χ5.F treeC a4 c4 := RowOK.ext hN5.ext hN5.ext.F hRd.inv.sub hr4
                            clear S2 hE2 hN5
                            cases b5 with
                            | false =>
                              unfold TN.agg
                              have g7 := grown_alloc w6 (.cells #[.int .u8 t5.vc, .int .u32 t5.vt, .bool t5.vb, .slice t5.a3 t5.l3 t5.c3, .slice t5.a4 t5.l4 t5.c4] 61)
                              have SY := SX.stepN g7
                              go_upto_region 28 with fail
                              clear SX g7
                              generalize w6.alloc (.cells #[.int .u8 t5.vc, .int .u32 t5.vt, .bool t5.vb, .slice t5.a3 t5.l3 t5.c3, .slice t5.a4 t5.l4 t5.c4] 61) = w7 at *
                              obtain ⟨m0, m1, m2, m3, m4⟩ := TN.cells5 (t := ⟨0, 0, false, none, 0, 0, none, 0, 0⟩) SY.atQ
                              dsimp only at m0 m1 m2 m3 m4
                              obtain ⟨f0, f1, f2, f3, f4⟩ := frozen5 SY.atQ
                              have hs := Lib.hid SY
                              clear SY
                              go_wp2_with fail
                              exact relem_fin (b := false) (t6 := ⟨0, 0, false, none, 0, 0, none, 0, 0⟩) hs.out (TF.zero _) nofun rfl rfl
                            | true =>
                              obtain ⟨hb51, hb52, hb53⟩ := hb5 rfl
                              unfold TN.agg
                              have g7 := grown_alloc w6 (.cells #[.int .u8 t5.vc, .int .u32 t5.vt, .bool t5.vb, .slice t5.a3 t5.l3 t5.c3, .slice t5.a4 t5.l4 t5.c4] 61)
                              have hP7 : (w6.alloc (.cells #[.int .u8 t5.vc, .int .u32 t5.vt, .bool t5.vb, .slice t5.a3 t5.l3 t5.c3, .slice t5.a4 t5.l4 t5.c4] 61)).heap[w6.heap.size]? = some (.cells #[.int .u8 t5.vc, .int .u32 t5.vt, .bool t5.vb, .slice t5.a3 t5.l3 t5.c3, .slice t5.a4 t5.l4 t5.c4] 61 (0, 0)) := by rw [alloc_get, if_pos rfl]
                              have SY := SX.stepN g7
                              have hEY := hEX.step (StepD.of_grown (D := R) (grown_R g7)) SX.rd.inv (fun e => hER e.symm)
                              go_upto_region 29 with fail
                              clear SX hEX g7
                              generalize w6.alloc (.cells #[.int .u8 t5.vc, .int .u32 t5.vt, .bool t5.vb, .slice t5.a3 t5.l3 t5.c3, .slice t5.a4 t5.l4 t5.c4] 61) = w7 at *
                              obtain ⟨ao8, c8, χ8, w8, hrun, hx8, hm8, hi8, q1, q2, q3⟩ := append_tree SY.rd.inv (l := l4) (by omega) hlc hcc hr5 hT5 59
                              have N8 : StepD R χ5 w7 χ8 w8 := StepD.of_mem hx8 hm8
                              have hat8 : RdAt w8 R z5b c5 := (hm8.old R (lt_of_blk SY.rd.at_) (fun hF => SY.rd.nA (SY.rd.inv.sub _ hF))).trans SY.rd.at_
                              have S8 := SY.step N8 hi8 hat8 SY.rd.sz SY.rd.cn
                              have hE8 := hEY.step N8 SY.rd.inv (fun e => hER e.symm)
                              have k4 : w7.cell? ⟨E, 4, none⟩ = some (.slice a4 l4 c4) := by rw [cell?_blk hEY.1]; rfl
                              obtain ⟨x0, x1, x2, x3, x4⟩ := TN.cells5 hP7
                              have k48 : w8.cell? ⟨E, 4, none⟩ = some (.slice a4 l4 c4) := by rw [cell?_blk hE8.1]; rfl
                              have f48 : w8.frozen? ⟨E, 4, none⟩ = false := by rw [frozen?_blk hE8.1]; simp
                              obtain ⟨S9, hE9⟩ := S8.set4 hE8 hER hEQ ao8 (l4 + 1) c8
                              have hEl := lt_of_blk hEY.1
                              dsimp only at hE9
                              clear S8 hE8 N8 hat8 SY hEY hx8 hm8 hi8
                              obtain ⟨k', rfl⟩ : ∃ k', gk = k' + 1 := ⟨gk - 1, by omega⟩
                              have hlenI : ((l4 : Int) + 1) = ((l4 + 1 : Nat) : Int) := rfl
                              unfold treeV at hrun
                              go_wp2_with (at_builtin; refine wpList_append_run (vs := .slice a4 l4 c4) (vx := .slice (some ⟨w7.heap.size, 0, none⟩) 1 1) rfl (.tmp 151) (.tmp 153) 59 59 rfl (by go_simp) (by go_simp) hrun ?_)
                              go_roundg k'
                              case measure => exact Nat.lt_succ_self k'
                              exact ⟨χ8, z5b, c5, ao8, l4 + 1, c8, S9, hE9, q1, q2, q3, by omega, hb52, by omega, by omega, by omega⟩
                    case rest =>
                      obtain ⟨χr, zr, cr, a4, l4, c4, Sr, hEr, hlc, hcc, hr4, hzs, hcr, hcr2, hl4c⟩ := hcut
                      have hcl := tclip_val (w := wc) (ao := a4) (l := l4) (c := c4) hlc (by omega)
                      have k4 : wc.cell? ⟨E, 4, none⟩ = some (.slice a4 l4 c4) := by rw [cell?_blk hEr.1]; rfl
                      have f4 : wc.frozen? ⟨E, 4, none⟩ = false := by rw [frozen?_blk hEr.1]; simp
                      obtain ⟨S9, hE9⟩ := Sr.set4 hEr hER hEQ a4 l4 l4
                      have hT : TF χr ⟨cl, nt, true, none, 0, 0, a4, l4, l4⟩ := ⟨hclr, hw32, ⟨Nat.le_refl _, by show 0 ≤ LB; unfold LB; omega, by show 0 ≤ CB; unfold CB; omega⟩, rfl, ⟨Nat.le_refl _, by show l4 ≤ LB; unfold LB; omega, by show l4 ≤ CB; omega⟩, row_short hr4 hlc⟩
                      clear ih S11 hE11 Sr hEr
                      go_wp2_with fail
                      refine hcl.mono ?_
                      clear hcl
                      rintro e w2 ⟨rfl, hw2⟩
                      subst hw2
                      go_upto_region 31 with fail
                      clear k4 f4
                      generalize w2.setCell ⟨E, 4, none⟩ (.slice a4 l4 l4) = w9 at *
                      obtain ⟨k0, k1, k2, k3, k4⟩ := TN.cells5 hE9.1
                      obtain ⟨m0, m1, m2, m3, m4⟩ := TN.cells5 (t := ⟨0, 0, false, none, 0, 0, none, 0, 0⟩) S9.atQ
                      dsimp only at m0 m1 m2 m3 m4 k0 k1 k2 k3 k4
                      obtain ⟨f0, f1, f2, f3, f4⟩ := frozen5 S9.atQ
                      have hs := Lib.hid S9
                      clear S9 hE9
                      go_wp2_with fail
                      exact relem_fin (b := true) (t6 := ⟨cl, nt, true, none, 0, 0, a4, l4, l4⟩) hs.out hT (fun _ => ⟨hzs, hcr, hcr2⟩) rfl rfl
            · skip
              obtain ⟨m0, m1, m2, m3, m4⟩ := TN.cells5 (t := ⟨0, 0, false, none, 0, 0, none, 0, 0⟩) S7.atQ
              dsimp only at m0 m1 m2 m3 m4
              obtain ⟨f0, f1, f2, f3, f4⟩ := frozen5 S7.atQ
              have hs := Lib.hid S7
              clear S7 ih
              go_wp2_with fail
              exact relem_fin (b := false) (t6 := ⟨0, 0, false, none, 0, 0, none, 0, 0⟩) hs.out (TF.zero _) nofun rfl rfl
          · skip
            obtain ⟨m0, m1, m2, m3, m4⟩ := TN.cells5 (t := ⟨0, 0, false, none, 0, 0, none, 0, 0⟩) S6.atQ
            dsimp only at m0 m1 m2 m3 m4
            obtain ⟨f0, f1, f2, f3, f4⟩ := frozen5 S6.atQ
            have hs := Lib.hid S6
            clear S6 ih
            go_wp2_with fail
            exact relem_fin (b := false) (t6 := ⟨0, 0, false, none, 0, 0, none, 0, 0⟩) hs.out (TF.zero _) nofun rfl rfl

end Go.Sx

namespace Go.Sx
open Go Go.Proofs

def ParseP (χ : Chi) (w : World) (e : Ending) (w' : World) : Prop := ∃ (χ' : Chi) (t' : TN) (r : Int), e = .returned (.tuple #[t'.agg, .int .i64 r]) ∧ TF χ' t' ∧ TGrows χ w χ' w'

theorem parse_fin {χ : Chi} {w : World} {χ6 : Chi} {w6 : World} {t6 : TN} {r : Int} {tm : Array Value} (hG : TGrows χ w χ6 w6) (hT : TF χ6 t6) (hR : w6.heap[w.heap.size]? = some (.cells #[.int .u8 0, .int .u32 0, .bool false, .slice none 0 0, .slice none 0 0] 61 (0, 0))) (hn : ¬ χ6.A w.heap.size) (ht2 : tm[2]? = some (.pointer (some ⟨w.heap.size, 0, none⟩))) (ht3 : tm[3]? = some (.int .i64 r)) :
    bodyPost Tryz.prog Tryz.f80 (ParseP χ w) Exit.ret { tmps := tm, defers := [] } (((((w6.setCell ⟨w.heap.size, 0, none⟩ (.int .u8 t6.vc)).setCell ⟨w.heap.size, 1, none⟩ (.int .u32 t6.vt)).setCell ⟨w.heap.size, 2, none⟩ (.bool t6.vb)).setCell ⟨w.heap.size, 3, none⟩ (.slice t6.a3 t6.l3 t6.c3)).setCell ⟨w.heap.size, 4, none⟩ (.slice t6.a4 t6.l4 t6.c4)) := by
  rw [set5 hR]
  have hlt := lt_of_blk hR
  have hRf : (setBlk w6 w.heap.size (.cells #[.int .u8 t6.vc, .int .u32 t6.vt, .bool t6.vb, .slice t6.a3 t6.l3 t6.c3, .slice t6.a4 t6.l4 t6.c4] 61 (0, 0))).heap[w.heap.size]? = some (.cells #[.int .u8 t6.vc, .int .u32 t6.vt, .bool t6.vb, .slice t6.a3 t6.l3 t6.c3, .slice t6.a4 t6.l4 t6.c4] 61 (0, 0)) := by rw [setBlk_get hlt, if_pos rfl]
  have hG2 := hG.setNew (Nat.le_refl _) hn hlt (.cells #[.int .u8 t6.vc, .int .u32 t6.vt, .bool t6.vb, .slice t6.a3 t6.l3 t6.c3, .slice t6.a4 t6.l4 t6.c4] 61 (0, 0))
  generalize setBlk w6 w.heap.size (.cells #[.int .u8 t6.vc, .int .u32 t6.vt, .bool t6.vb, .slice t6.a3 t6.l3 t6.c3, .slice t6.a4 t6.l4 t6.c4] 61 (0, 0)) = wf at *
  obtain ⟨y0, y1, y2, y3, y4⟩ := TN.cells5 hRf
  refine bodyPost_ret (v := .tuple #[t6.agg, .int .i64 r]) ?_ rfl ⟨χ6, t6, r, rfl, hT, hG2⟩
  simp [results, Tryz.results80, go_sem, y0, y1, y2, y3, y4, ht2, ht3, TN.agg]

set_option maxRecDepth 100000 in
set_option maxHeartbeats 3200000 in
theorem parse_any {χ : Chi} {w : World} {s : ByteArray} (hi : Inv Tryz.prog χ w) (hF : ∀ b, ¬ χ.F b) (hs : s.size ≤ 1048576) (hgl : GlOK χ [(0, tabC)]) (he1 : ∃ u v, w.cell? ⟨2, 0, none⟩ = some (.iface u v)) (he2 : ∃ u v, w.cell? ⟨3, 0, none⟩ = some (.iface u v)) :
    Calls Tryz.prog 80 #[.string s] w (ParseP χ w) := by
  have g1 := grown_alloc w (.cells #[.int .u8 0, .int .u32 0, .bool false, .slice none 0 0, .slice none 0 0] 61)
  have hQ1 : (w.alloc (.cells #[.int .u8 0, .int .u32 0, .bool false, .slice none 0 0, .slice none 0 0] 61)).heap[w.heap.size]? = some (.cells #[.int .u8 0, .int .u32 0, .bool false, .slice none 0 0, .slice none 0 0] 61 (0, 0)) := by rw [alloc_get, if_pos rfl]
  have s1 := alloc_size w (.cells #[.int .u8 0, .int .u32 0, .bool false, .slice none 0 0, .slice none 0 0] 61)
  have hbig : decide (1048576 < (s.size : Int)) = false := by simp; omega
  have hbig2 : decide (1048576 < s.size) = false := by simp; omega
  go_enter Tryz.func80, Tryz.ntmps80
  go_upto_region 1 with fail
  generalize w.alloc (.cells #[.int .u8 0, .int .u32 0, .bool false, .slice none 0 0, .slice none 0 0] 61) = w1 at *
  have g2 := grown_alloc w1 (.cells #[.string s, .int .i64 0] 204)
  have hR2 : (w1.alloc (.cells #[.string s, .int .i64 0] 204)).heap[w1.heap.size]? = some (.cells #[.string s, .int .i64 0] 204 (0, 0)) := by rw [alloc_get, if_pos rfl]
  have hQ2 := (g2.block _ (lt_of_blk hQ1) (by simp)).trans hQ1
  have g12 := grown_trans g1 g2
  rw [s1] at hR2
  go_upto_region 4 with fail
  generalize w1.alloc (.cells #[.string s, .int .i64 0] 204) = w2 at *
  have hlt1 : ∀ {b : Nat} {v : Value}, w.cell? ⟨b, 0, none⟩ = some v → b ≠ w.heap.size + 1 ∧ w2.cell? ⟨b, 0, none⟩ = some v := fun {b v} h => ⟨by have := cell_lt h; omega, cell_grown h (cell_lt h) g12⟩
  have hI2 : Inv Tryz.prog χ w2 := hi.same fun b hb => g12.block b (hi.lt hb) (by simp)
  have hnA : ¬ χ.A (w.heap.size + 1) := fun h => by have := hi.lt h; omega
  have hnQ : ¬ χ.A w.heap.size := fun h => by have := hi.lt h; omega
  have hRd : RdI χ w2 (w.heap.size + 1) s 0 := by
    obtain ⟨u1, v1, e1⟩ := he1
    obtain ⟨u2, v2, e2⟩ := he2
    exact ⟨hI2, hnA, hR2, hs, by omega, hgl, ⟨u1, v1, (hlt1 e1).2⟩, ⟨u2, v2, (hlt1 e2).2⟩, (hlt1 e1).1.symm, (hlt1 e2).1.symm, hF _, hF _⟩
  have hel := relement_any 16 1 rfl hRd (by omega)
  rw [show (((1 : Nat) : Int)) = 1 from rfl] at hel
  go_wp2_with fail
  refine hel.mono ?_
  clear hel
  rintro e w3 ⟨χ3, t3, z, c, b, rfl, hT3, hd3, hN3, _⟩
  obtain ⟨hQ3, hnQ3⟩ := hN3.keep hI2 hQ2 (by omega) hnQ
  have G3 : TGrows χ w χ3 w3 := ⟨hN3.ext, ⟨hN3.os.trans g12.os, hN3.tape.trans g12.tape, hN3.output.trans g12.output, Nat.le_trans g12.size hN3.size, fun b hb hFb => (hN3.old b (Nat.lt_of_lt_of_le hb g12.size) (by omega) hFb).trans (g12.block b hb (by simp)), fun b hb => (hN3.Fn b hb).imp id (fun h => Nat.le_trans g12.size h), fun b hb => (hN3.An b hb).imp id (fun h => Nat.le_trans g12.size h)⟩, hd3.inv⟩
  have g4 := grown_alloc w3 (.cells #[.int .u8 t3.vc, .int .u32 t3.vt, .bool t3.vb, .slice t3.a3 t3.l3 t3.c3, .slice t3.a4 t3.l4 t3.c4] 61)
  have hP4 : (w3.alloc (.cells #[.int .u8 t3.vc, .int .u32 t3.vt, .bool t3.vb, .slice t3.a3 t3.l3 t3.c3, .slice t3.a4 t3.l4 t3.c4] 61)).heap[w3.heap.size]? = some (.cells #[.int .u8 t3.vc, .int .u32 t3.vt, .bool t3.vb, .slice t3.a3 t3.l3 t3.c3, .slice t3.a4 t3.l4 t3.c4] 61 (0, 0)) := by rw [alloc_get, if_pos rfl]
  have G4 := G3.trans (TGrows.plain G3.inv g4)
  have hQ4 := (g4.block _ (lt_of_blk hQ3) (by simp)).trans hQ3
  have hat4 := hd3.at_.grown g4
  unfold TN.agg
  go_upto_region 5 with fail
  clear hQ3 g4 G3 hd3 hN3 hRd hI2 g12 g1 g2 hQ1 hQ2 hR2 hlt1 he1 he2 hgl
  generalize hP : w3.heap.size = P at *
  generalize w3.alloc (.cells #[.int .u8 t3.vc, .int .u32 t3.vt, .bool t3.vb, .slice t3.a3 t3.l3 t3.c3, .slice t3.a4 t3.l4 t3.c4] 61) = w4 at *
  have c0 := hat4.c0
  have zt : TF χ3 ⟨0, 0, false, none, 0, 0, none, 0, 0⟩ := TF.zero _
  cases b with
  | false =>
    obtain ⟨m0, m1, m2, m3, m4⟩ := TN.cells5 (t := ⟨0, 0, false, none, 0, 0, none, 0, 0⟩) hQ4
    dsimp only at m0 m1 m2 m3 m4
    obtain ⟨f0, f1, f2, f3, f4⟩ := frozen5 hQ4
    have hh := Lib.hid hQ4
    clear hQ4 hP4 hat4
    go_wp2_with fail
    exact parse_fin (t6 := ⟨0, 0, false, none, 0, 0, none, 0, 0⟩) G4 zt hh.out hnQ3 rfl rfl
  | true =>
    obtain ⟨q, hq⟩ : ∃ q, z.toList.isEmpty = q := ⟨_, rfl⟩
    cases q with
    | false =>
      obtain ⟨m0, m1, m2, m3, m4⟩ := TN.cells5 (t := ⟨0, 0, false, none, 0, 0, none, 0, 0⟩) hQ4
      dsimp only at m0 m1 m2 m3 m4
      obtain ⟨f0, f1, f2, f3, f4⟩ := frozen5 hQ4
      have hh := Lib.hid hQ4
      clear hQ4 hP4 hat4
      go_wp2_with fail
      exact parse_fin (t6 := ⟨0, 0, false, none, 0, 0, none, 0, 0⟩) G4 zt hh.out hnQ3 rfl rfl
    | true =>
      have hch := check_any G4.inv (hT3.typed G4.inv.sub)
      obtain ⟨k0, k1, k2, k3, k4⟩ := TN.cells5 hP4
      unfold TN.agg at hch
      go_wp2_with fail
      refine hch.mono ?_
      clear hch k0 k1 k2 k3 k4 c0
      rintro e w5 ⟨hg5, r, rfl, r0, r1, _⟩
      have G5 := G4.trans (TGrows.plain G4.inv hg5)
      have hP5 := (hg5.block _ (lt_of_blk hP4) (by simp)).trans hP4
      have hQ5 := (hg5.block _ (lt_of_blk hQ4) (by simp)).trans hQ4
      obtain ⟨m0, m1, m2, m3, m4⟩ := TN.cells5 (t := ⟨0, 0, false, none, 0, 0, none, 0, 0⟩) hQ5
      dsimp only at m0 m1 m2 m3 m4
      obtain ⟨k0, k1, k2, k3, k4⟩ := TN.cells5 hP5
      obtain ⟨f0, f1, f2, f3, f4⟩ := frozen5 hQ5
      have hh := Lib.hid hQ5
      clear hQ4 hP4 hat4 hQ5 hP5
      by_cases hr : r = 0
      · have hrb : (r != 0) = false := by simpa using hr
        go_wp2_with fail
        exact parse_fin (t6 := t3) G5 hT3 hh.out hnQ3 rfl rfl
      · have hrb : (r != 0) = true := by simpa using hr
        go_wp2_with fail
        exact parse_fin (t6 := ⟨0, 0, false, none, 0, 0, none, 0, 0⟩) G5 zt hh.out hnQ3 rfl rfl

set_option maxRecDepth 100000 in
set_option maxHeartbeats 3200000 in
theorem hcall79 (hS : ∀ b o, ClosS Tryz.prog 3 9 ⟨81, b, o, treeD KT⟩) : CallOK Tryz.prog 3 9 2000 79 (.seq (treeD KT) (.seq (.int .u8) (.seq (.row 5 (.int .u8)) (.seq (.int .u8) (.seq (.int .u32) (.seq (treeD KT) (.seq (treeD KT) (.seq (.int .i64) (.seq (.row 5 (.int .u8)) .str))))))))) glT := by
  intro w χ b cs E hinv hA hc ht hgw hga hsm
  have h21 : ∃ s : ByteArray, cs[21]? = some (.string s) ∧ s.size ≤ 2000 := by
    have e := ht 21
    simp only [D.cts, treeD_cts, kkOf] at e
    cases hv : cs[21]? with
    | none => rw [hv] at e; exact e.elim
    | some v =>
      rw [hv] at e
      obtain ⟨s, rfl, h⟩ := (show ∃ s : ByteArray, v = .string s ∧ s.size ≤ 2000 from e)
      exact ⟨s, rfl, h⟩
  obtain ⟨s, h21, hs⟩ := h21
  have hna : ∀ p ∈ glT, ¬ χ.A p.1 := fun p hp => (hga p hp).1
  have hd : glDistinct glT = true := rfl
  have hgl := GlOK.withGl (χ := χ.shut) hd
  have hig := Inv.withGl (χ := χ.shut) hinv.1.shut hgw hd hna
  have err : ∀ g, (g, [CT.any]) ∈ glT → ∃ u v, w.cell? ⟨g, 0, none⟩ = some (.iface u v) := fun g hg => by
    obtain ⟨cs', E', fz, h1, _, h3⟩ := hgw _ hg
    obtain ⟨u, v, rfl⟩ := h3 rfl
    exact ⟨u, v, by rw [cell?_blk h1]; rfl⟩
  have hpa := parse_any (s := s) hig (fun _ h => h) (by omega) (glT_tab hgl) (err _ (.head _)) (err _ (.tail _ (.head _)))
  have k0 : w.cell? ⟨b, 21, none⟩ = some (.string s) := by rw [cell?_blk hc]; exact h21
  clear hsm hgw hga err h21 ht
  go_enter Tryz.func79, Tryz.ntmps79
  go_wp2_with fail
  refine hpa.mono ?_
  clear hpa k0
  rintro e w2 ⟨χ2, t2, r, rfl, hT2, G2⟩
  have GA := G2.trans (TGrows.plain G2.inv (grown_alloc w2 (.cells #[.int .u8 t2.vc, .int .u32 t2.vt, .bool t2.vb, .slice t2.a3 t2.l3 t2.c3, .slice t2.a4 t2.l4 t2.c4] 61)))
  have hrb : (w2.alloc (.cells #[.int .u8 t2.vc, .int .u32 t2.vt, .bool t2.vb, .slice t2.a3 t2.l3 t2.c3, .slice t2.a4 t2.l4 t2.c4] 61)).heap[w2.heap.size]? = some (.cells #[.int .u8 t2.vc, .int .u32 t2.vt, .bool t2.vb, .slice t2.a3 t2.l3 t2.c3, .slice t2.a4 t2.l4 t2.c4] 61 (0, 0)) := by rw [alloc_get, if_pos rfl]
  have hmf : ∀ (fn : Fn) (first cap : Array Value) (w : World), (Instr.makeFunc fn first cap).run Tryz.prog w = .ok (.func fn first cap) w := fun _ _ _ _ => rfl
  have hpost := callPost_tree (FE := 42) (fun _ h => h) GA hT2 hrb (fun h => by have := G2.inv.lt h; omega) G2.mem.size hS
  rw [alloc_size] at hpost
  unfold TN.agg
  go_wp2_with fail
  exact bodyPost_ret (v := .slice (some ⟨w2.heap.size + 1, 0, none⟩) 1 1) (by simp [results, Tryz.results79, go_sem]) rfl hpost

end Go.Sx


