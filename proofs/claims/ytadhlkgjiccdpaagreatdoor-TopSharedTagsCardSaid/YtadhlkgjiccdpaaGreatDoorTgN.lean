/- Part TgN of a proof: helper lemmas; no conditions. -/
import Derived.Test.YtadhlkgjiccdpaaGreatDoorTgO
import Derived.Test.YtadhlkgjiccdpaaGreatDoorTgD
import Derived.Test.YtadhlkgjiccdpaaGreatDoorTgE

set_option linter.unusedSimpArgs false
set_option linter.unusedVariables false

namespace Go.Sx
open Go Go.Proofs

structure NewD (D : Nat) (χ : Chi) (w : World) (χ' : Chi) (w' : World) : Prop where
  ext : Ext 0 χ χ'
  g : w.grownBy w' (some D)
  Fn : ∀ b, χ'.F b → χ.F b ∨ w.heap.size ≤ b
  An : ∀ b, χ'.A b → χ.A b ∨ w.heap.size ≤ b

theorem NewD.of_grown {D : Nat} {χ : Chi} {w w' : World} (h : w.grownBy w' (some D)) : NewD D χ w χ w' := ⟨Ext.refl 0 χ, h, fun _ h => .inl h, fun _ h => .inl h⟩

theorem NewD.trans {D : Nat} {χ χ' χ'' : Chi} {w w' w'' : World} (h : NewD D χ w χ' w') (k : NewD D χ' w' χ'' w'') : NewD D χ w χ'' w'' where
  ext := h.ext.trans k.ext
  g := grown_transD h.g k.g
  Fn := fun b hb => by
    rcases k.Fn b hb with h1 | h1
    · exact h.Fn b h1
    · exact .inr (Nat.le_trans h.g.size h1)
  An := fun b hb => by
    rcases k.An b hb with h1 | h1
    · exact h.An b h1
    · exact .inr (Nat.le_trans h.g.size h1)

theorem NewD.keep {D : Nat} {χ χ' : Chi} {w w' : World} (h : NewD D χ w χ' w') {E : Nat} {o : Obj} (hE : w.heap[E]? = some o) (hD : E ≠ D) (hA : ¬ χ.A E) : w'.heap[E]? = some o ∧ ¬ χ'.A E := by
  have hlt : E < w.heap.size := by
    rcases Nat.lt_or_ge E w.heap.size with h | h
    · exact h
    · rw [Array.getElem?_eq_none h] at hE; cases hE
  refine ⟨(h.g.block E hlt (fun e => hD (by cases e; rfl))).trans hE, fun hA' => ?_⟩
  rcases h.An E hA' with h1 | h1
  · exact hA h1
  · omega

theorem NewD.same {D : Nat} {χ χ' : Chi} {w w' : World} (h : NewD D χ w χ' w') (hi : Inv Tryz.prog χ w) (hD : ¬ χ.A D) : ∀ b, χ.A b → w'.heap[b]? = w.heap[b]? := fun b hb => h.g.block b (hi.lt hb) (fun e => by cases e; exact hD hb)

theorem NewD.setOther {D : Nat} {χ χ' : Chi} {w wx : World} (h : NewD D χ w χ' wx) {E : Nat} (hlt : E < wx.heap.size) (hE : w.heap.size ≤ E) (o : Obj) : NewD D χ w χ' (setBlk wx E o) :=
  ⟨h.ext, grown_setOther h.g hlt hE o, h.Fn, h.An⟩

def TF (χ : Chi) (t : TN) : Prop := TreeF χ t.vc t.vt t.vb t.a3 t.l3 t.c3 t.a4 t.l4 t.c4

theorem TF.ext {χ χ' : Chi} {t : TN} (h : TF χ t) (hF : ∀ b, χ.F b → χ.A b) (hx : Ext 0 χ χ') : TF χ' t := TreeF.ext h hF hx

theorem TF.per {χ : Chi} {t : TN} (h : TF χ t) : PerOK Tryz.prog χ χ.F treeC t.v := by
  intro i v hv
  rcases i with _ | _ | _ | _ | _ | i
  · cases hv; exact ⟨.int .u8 0 255, rfl, t.vc, rfl, h.c0⟩
  · cases hv; exact ⟨.int .u32 0 4294967295, rfl, t.vt, rfl, h.t0⟩
  · cases hv; exact ⟨.bool, rfl, t.vb, rfl⟩
  · cases hv; exact ⟨.slice (.base 5), rfl, t.a3, t.l3, t.c3, rfl, h.l3.1, h.l3.2.1, h.l3.2.2, by rw [tauO]; exact h.r3⟩
  · cases hv; exact ⟨.slice (.base 61), rfl, t.a4, t.l4, t.c4, rfl, h.l4.1, h.l4.2.1, h.l4.2.2, by rw [tauT]; exact h.r4⟩
  · simp [TN.v] at hv

theorem TF.typed {χ : Chi} {t : TN} (h : TF χ t) (hF : ∀ b, χ.F b → χ.A b) : TypedN χ t := ⟨h.c0, h.t0, h.l3, row_short (h.r3.monoS hF) h.l3.1, h.l4, row_short (h.r4.monoS hF) h.l4.1⟩

theorem partsV_cons (t : TN) (ts : List TN) : partsV (t :: ts) = t.v.toList ++ partsV ts := by simp [partsV]

theorem parts_perF {χ : Chi} : ∀ {ts : List TN}, (∀ t ∈ ts, TF χ t) → PerOK Tryz.prog χ χ.F treeC (partsV ts).toArray ∧ (partsV ts).length = ts.length * 5
  | [], _ => ⟨PerOK.empty, rfl⟩
  | t :: ts, h => by
    obtain ⟨h1, h2⟩ := parts_perF (ts := ts) (fun u hu => h u (List.mem_cons_of_mem _ hu))
    have e := partsV_cons t ts
    refine ⟨?_, by rw [e, List.length_append, h2]; simp [TN.v]; omega⟩
    have e2 : (partsV (t :: ts)).toArray = t.v ++ (partsV ts).toArray := by rw [e]; simp
    rw [e2]
    exact PerOK.append (a := 1) (h t (by simp)).per rfl h1

theorem partsV_get : ∀ {ts : List TN} {i j : Nat} {t : TN}, ts[i]? = some t → j < 5 → (partsV ts)[i * 5 + j]? = t.v[j]?
  | [], i, j, t, h, _ => by simp at h
  | t0 :: ts, 0, j, t, h, hj => by
    simp only [List.getElem?_cons_zero, Option.some.injEq] at h
    subst h
    rw [partsV_cons, List.getElem?_append_left (by simp [TN.v]; omega), Array.getElem?_toList]
    congr 1; omega
  | t0 :: ts, i + 1, j, t, h, hj => by
    simp only [List.getElem?_cons_succ] at h
    have := partsV_get h hj
    rw [partsV_cons, List.getElem?_append_right (by simp [TN.v]; omega), ← this]
    congr 1
    simp only [TN.v, List.length_cons, List.length_nil]; omega

def KidsAt (χ : Chi) (w : World) (d : Nat) (ts : List TN) (n s : Nat) : Prop :=
  ∃ ns ss : Nat → Nat, (∀ i t, ts[i]? = some t → TF χ t ∧ TreeAt χ w d (ns i) (ss i) t) ∧ sumN ns ts.length = n ∧ sumN ss ts.length = s

theorem KidsAt.nil (χ : Chi) (w : World) (d : Nat) : KidsAt χ w d [] 0 0 := ⟨fun _ => 0, fun _ => 0, fun i t h => by simp at h, rfl, rfl⟩

theorem KidsAt.same {χ χ' : Chi} {w w' : World} {d : Nat} {ts : List TN} {n s : Nat} (h : KidsAt χ w d ts n s) (hF : ∀ b, χ.F b → χ.A b) (hx : Ext 0 χ χ') (hw : ∀ b, χ.A b → w'.heap[b]? = w.heap[b]?) : KidsAt χ' w' d ts n s := by
  obtain ⟨ns, ss, h1, h2, h3⟩ := h
  exact ⟨ns, ss, fun i t ht => ⟨(h1 i t ht).1.ext hF hx, (h1 i t ht).2.same hx hw⟩, h2, h3⟩

theorem KidsAt.snoc {χ : Chi} {w : World} {d : Nat} {ts : List TN} {n s n2 s2 : Nat} {t : TN} (h : KidsAt χ w d ts n s) (ht : TF χ t) (hT : TreeAt χ w d n2 s2 t) : KidsAt χ w d (ts ++ [t]) (n + n2) (s + s2) := by
  obtain ⟨ns, ss, h1, h2, h3⟩ := h
  refine ⟨fun i => if i = ts.length then n2 else ns i, fun i => if i = ts.length then s2 else ss i, fun i t' ht' => ?_, ?_, ?_⟩
  · rcases Nat.lt_or_ge i ts.length with hi | hi
    · rw [List.getElem?_append_left hi] at ht'
      simp only [if_neg (Nat.ne_of_lt hi)]
      exact h1 i t' ht'
    · rw [List.getElem?_append_right hi] at ht'
      have : i = ts.length := by
        rcases Nat.eq_or_lt_of_le hi with h | h
        · exact h.symm
        · rw [List.getElem?_eq_none (by simp; omega)] at ht'; cases ht'
      subst this
      simp at ht'
      subst ht'
      simp only [if_true]
      exact ⟨ht, hT⟩
  · rw [List.length_append]
    simp only [List.length_cons, List.length_nil, sumN, if_true]
    rw [sumN_congr (g := ns) (fun i hi => if_neg (Nat.ne_of_lt hi)), h2]
  · rw [List.length_append]
    simp only [List.length_cons, List.length_nil, sumN, if_true]
    rw [sumN_congr (g := ss) (fun i hi => if_neg (Nat.ne_of_lt hi)), h3]

theorem kids_adopt {χ : Chi} {w : World} {base d n s : Nat} {v : Value} {ts : List TN} (hi : Inv Tryz.prog χ w) (own : w.ownsRow base 61 5 v ts.length (partsV ts)) (one : OneAt w v) (nv : ∀ g, v.ownBlock = some g → ¬ χ.A g) (hk : KidsAt χ w d ts n s) :
    ∃ (χ' : Chi) (ao : Option Addr) (c : Nat), v = .slice ao ts.length c ∧ Inv Tryz.prog χ' w ∧ Ext 0 χ χ' ∧ (∀ b, χ'.F b → χ.F b ∨ v.ownBlock = some b) ∧ (∀ b, χ'.A b → χ.A b ∨ v.ownBlock = some b) ∧ ts.length ≤ c ∧ c ≤ CB ∧ RowOK χ' χ'.F treeC ao ts.length ∧
      ∀ t : TN, t.a4 = ao → t.l4 = ts.length → TypedN χ' t → TreeAt χ' w (d + 1) (1 + n) (t.l3 + s) t := by
  have hk0 := hk
  obtain ⟨ns, ss, h1, h2, h3⟩ := hk
  have hget : ∀ i, i < ts.length → ∃ t, ts[i]? = some t := fun i h => ⟨ts[i], List.getElem?_eq_getElem h⟩
  rcases own.2 with ⟨hv, h0⟩ | ⟨g, cap, cs, hv, hb, hg, hnc, hcm, hcs, htk⟩
  · refine ⟨χ, none, 0, by rw [hv, h0], hi, Ext.refl 0 χ, fun b h => .inl h, fun b h => .inl h, by omega, by unfold CB; omega, by rw [h0]; rfl, fun t ha hl hT => ⟨hT, ns, ss, fun _ => t, ?_, ?_, fun i h => by omega⟩⟩
    · rw [hl, h2]
    · rw [hl, h3]
  · obtain ⟨hper, hpl⟩ := parts_perF (χ := χ) (ts := ts) (fun t ht => by
      obtain ⟨i, hi'⟩ := List.getElem?_of_mem ht
      exact (h1 i t hi').1)
    have hnA : ¬ χ.A g := nv g (by rw [hv]; rfl)
    have hcs5 : ts.length * 5 ≤ cs.size := by rw [hcs]; omega
    have hone := one g cs _ _ (by rw [hv]; rfl) hg
    have hty : TypedBy Tryz.prog χ χ.F cs (fun i => if i < ts.length * 5 then treeC[i % 5]? else if i < cs.size then some .any else none) := by
      intro i
      by_cases h1 : i < ts.length * 5
      · have e1 : (partsV ts)[i]? = cs[i]? := by rw [← htk, List.getElem?_take, if_pos h1, Array.getElem?_toList]
        obtain ⟨u, hu⟩ : ∃ u, cs[i]? = some u := ⟨cs[i]'(by omega), Array.getElem?_eq_getElem (by omega)⟩
        obtain ⟨ct, c1, c2⟩ := hper i u (by rw [List.getElem?_toArray, e1]; exact hu)
        have c1' : treeC[i % 5]? = some ct := c1
        simp only [hu, if_pos h1, c1']
        exact c2
      · by_cases h2 : i < cs.size
        · have hu : cs[i]? = some cs[i] := by simp [h2]
          simp only [hu, if_neg h1, if_pos h2]
          exact hone _ (by simp)
        · have hu : cs[i]? = none := by simp; omega
          simp only [hu, if_neg h1, if_neg h2]
    obtain ⟨hi2, hx⟩ := Inv.adoptF hi hnA _ hg hty
    refine ⟨_, some ⟨g, 0, none⟩, cap, hv, hi2, hx, fun b h => ?_, fun b h => ?_, hnc, by show cap ≤ 9223372036854775807; unfold maxLen at hcm; omega, ⟨rfl, .inr ⟨rfl, rfl⟩, fun i hi => ?_⟩, fun t ha hl hT => ?_⟩
    · rcases h with h | ⟨_, rfl⟩
      · exact .inl h
      · exact .inr (by rw [hv]; rfl)
    · rcases h with h | rfl
      · exact .inl h
      · exact .inr (by rw [hv]; rfl)
    · have hi5 : i < ts.length * 5 := hi
      show (if g = g then _ else _) = _
      rw [if_pos rfl]
      simp only [Nat.zero_add]
      rw [if_pos hi5]
      rfl
    · refine ⟨hT, ns, ss, fun i => (ts[i]?).getD t, by rw [hl, h2], by rw [hl, h3], fun i h => ?_⟩
      obtain ⟨u, hu⟩ := hget i (by omega)
      obtain ⟨k1, k2⟩ := h1 i u hu
      simp only [hu, Option.getD_some]
      refine ⟨⟨g, 0, ha, .inr rfl, fun j hj => ?_⟩, k2.same hx (fun _ _ => rfl)⟩
      have hlt : i * 5 + j < ts.length * 5 := by omega
      rw [cell?_blk hg, Nat.zero_add, ← partsV_get hu hj, ← htk, List.getElem?_take, if_pos hlt, Array.getElem?_toList]

theorem tclip_val {w : World} {ao : Option Addr} {l c : Nat} (hlc : l ≤ c) (hl : l ≤ 1099511627776) : Calls Tryz.prog 156 #[.slice ao l c] w fun e w' => e = .returned (.slice ao l l) ∧ w' = w := by
  have hil : (l : Int) ≤ (c : Int) := by omega
  go_enter Tryz.func156, Tryz.ntmps156
  go_wp2
  exact bodyPost_ret (v := .slice ao l l) (by simp [results, Tryz.results156, go_sem]) rfl ⟨rfl, rfl⟩

theorem bclone_new {χ : Chi} {w : World} {ao : Option Addr} {l c : Nat} (hinv : Inv Tryz.prog χ w) (h1 : l ≤ 1000000) (h2 : l ≤ c) (h3 : c ≤ CB) (hr : RowOK χ χ.A oct ao c) (D : Nat) :
    Calls Tryz.prog 169 #[.slice ao l c] w fun e w' => ∃ (ao' : Option Addr) (c' : Nat) (χ' : Chi), e = .returned (.slice ao' l c') ∧ Inv Tryz.prog χ' w' ∧ NewD D χ w χ' w' ∧ w.grownBy w' none ∧ l ≤ c' ∧ c' ≤ CB ∧ RowOK χ' χ'.F oct ao' c' := by
  refine (bclone_call (l := l) hinv.shut h1 h2 h3 hr).mono ?_
  rintro e w' ⟨ao', c', χ', rfl, hx, hm, hi, q1, q2, q3⟩
  have hg := grown_of_mem hm (fun _ h => h)
  have hFn : ∀ b, χ'.F b → w.heap.size ≤ b := fun b hb => by
    rcases hm.Fn b hb with h | h
    · exact h.elim
    · exact h
  obtain ⟨k1, k2, k3⟩ := Go.Sx.unshut hinv hx hg hi hFn hm.An
  exact ⟨ao', c', χ.join χ', rfl, k3, ⟨k1, grown_some hg, k2.Fn, k2.An⟩, hg, q1, q2, RowOK.monoS (χ := χ') (fun _ h => .inr h) q3⟩

def Elem2 (χ : Chi) (w : World) (D l : Nat) (cnt : Int) (d : Nat) (e : Ending) (w' : World) : Prop :=
  (∃ (χ' : Chi) (t : TN) (n s : Nat) (ao' : Option Addr) (l' c' : Nat) (cnt' : Int),
    e = .returned t.agg ∧ TF χ' t ∧ TreeAt χ' w' d n s t ∧ Dec χ' w' D ao' l' c' cnt' ∧ l' + s + 1 ≤ l ∧ cnt + n ≤ cnt' ∧ NewD D χ w χ' w') ∨
  (Raised e ∧ ∃ χ', NewD D χ w χ' w' ∧ Inv Tryz.prog χ' w' ∧ ¬ χ'.A D)

theorem elem2_raised {χ : Chi} {w w' : World} {D l d : Nat} {cnt : Int} {e : Ending} (hR : Raised e) {χ' : Chi} (hs : NewD D χ w χ' w') (hi : Inv Tryz.prog χ' w') (hA : ¬ χ'.A D) : Elem2 χ w D l cnt d e w' := .inr ⟨hR, χ', hs, hi, hA⟩

structure PSt (χ : Chi) (w : World) (D E4 E : Nat) (cnt0 : Int) (d : Nat) (a3 : Value) (χ' : Chi) (wx : World) (vc vt : Int) (vb : Bool) (v4 : Value) (ts : List TN) (n s : Nat) (ao' : Option Addr) (l' c' : Nat) (cnt' : Int) : Prop where
  at_ : wx.heap[E]? = some (.cells #[.int .u8 vc, .int .u32 vt, .bool vb, a3, v4] 61 (0, 0))
  c0 : 0 ≤ vc ∧ vc ≤ 255
  t0 : 0 ≤ vt ∧ vt ≤ 4294967295
  own : wx.ownsRow (E + 1) 61 5 v4 ts.length (partsV ts)
  one : OneAt wx v4
  nv : ∀ g, v4.ownBlock = some g → ¬ χ'.A g
  kids : KidsAt χ' wx d ts n s
  dec : Dec χ' wx D ao' l' c' cnt'
  cnt : cnt0 + 1 + n ≤ cnt'
  new : NewD D χ w χ' wx
  nE : ¬ χ'.A E
  e4 : wx.heap[E4]? = some (.cells #[.int .u8 0, .int .u32 0, .bool false, .slice none 0 0, .slice none 0 0] 61 (0, 0))
  n4 : ¬ χ'.A E4
  lt : D < w.heap.size ∧ w.heap.size ≤ E4 ∧ E4 < E

theorem PSt.ownlt {χ : Chi} {w : World} {D E4 E : Nat} {cnt0 : Int} {d : Nat} {a3 : Value} {χ' : Chi} {wx : World} {vc vt : Int} {vb : Bool} {v4 : Value} {ts : List TN} {n s : Nat} {ao' : Option Addr} {l' c' : Nat} {cnt' : Int}
    (h : PSt χ w D E4 E cnt0 d a3 χ' wx vc vt vb v4 ts n s ao' l' c' cnt') {g : Nat} (hg : v4.ownBlock = some g) : E + 1 ≤ g ∧ g < wx.heap.size := h.own.lt g hg

theorem PSt.step {χ : Chi} {w : World} {D E4 E : Nat} {cnt0 : Int} {d : Nat} {a3 : Value} {χ' : Chi} {wx : World} {vc vt : Int} {vb : Bool} {v4 : Value} {ts : List TN} {n s : Nat} {ao' : Option Addr} {l' c' : Nat} {cnt' : Int}
    (h : PSt χ w D E4 E cnt0 d a3 χ' wx vc vt vb v4 ts n s ao' l' c' cnt') {χ2 : Chi} {w2 : World} {ao2 : Option Addr} {l2 c2 : Nat} {cnt2 : Int} (hN : NewD D χ' wx χ2 w2) (hd : Dec χ2 w2 D ao2 l2 c2 cnt2) (hc : cnt' ≤ cnt2) :
    PSt χ w D E4 E cnt0 d a3 χ2 w2 vc vt vb v4 ts n s ao2 l2 c2 cnt2 := by
  obtain ⟨hl1, hl2, hl3⟩ := h.lt
  obtain ⟨k1, k2⟩ := hN.keep h.at_ (by omega) h.nE
  obtain ⟨k3, k4⟩ := hN.keep h.e4 (by omega) h.n4
  have hne : ∀ g, v4.ownBlock = some g → g ≠ D := fun g hg => by have := (h.ownlt hg).1; omega
  refine ⟨k1, h.c0, h.t0, h.own.kept hN.g ?_, fun g cs E' fz h1 h2 => ?_, fun g hg hA => ?_, h.kids.same h.dec.inv.sub hN.ext (hN.same h.dec.inv h.dec.nA), hd, ?_, h.new.trans hN, k2, k3, k4, h.lt⟩
  · cases hv : v4.ownBlock with
    | none => exact .inl rfl
    | some g => exact .inr (fun e => hne g hv (by cases e; rfl))
  · rw [hN.g.block g (h.ownlt h1).2 (fun e => hne g h1 (by cases e; rfl))] at h2
    exact h.one g cs E' fz h1 h2
  · rcases hN.An g hA with h1 | h1
    · exact h.nv g hg h1
    · have := (h.ownlt hg).2; omega
  · have := h.cnt; omega

theorem PSt.append {χ : Chi} {w : World} {D E4 E : Nat} {cnt0 : Int} {d : Nat} {a3 : Value} {χ' : Chi} {wx : World} {vc vt : Int} {vb : Bool} {v4 : Value} {ts : List TN} {n s : Nat} {ao' : Option Addr} {l' c' : Nat} {cnt' : Int}
    (h : PSt χ w D E4 E cnt0 d a3 χ' wx vc vt vb v4 ts n s ao' l' c' cnt') {t : TN} {n2 s2 : Nat} (ht : TF χ' t) (hT : TreeAt χ' wx d n2 s2 t) (hc2 : cnt0 + 1 + (n + n2 : Nat) ≤ cnt') {w3 : World} {g cap : Nat}
    (own3 : w3.ownsRow (E + 1) 61 5 (.slice (some ⟨g, 0, none⟩) (ts.length + 1) cap) (ts.length + 1) (partsV ts ++ t.v.toList)) (hgr : (wx.alloc (.cells t.v 61)).grownBy w3 v4.ownBlock)
    (hor : v4.ownBlock = some g ∨ g = (wx.alloc (.cells t.v 61)).heap.size) (hone : OneAt w3 (.slice (some ⟨g, 0, none⟩) (ts.length + 1) cap)) :
    PSt χ w D E4 E cnt0 d a3 χ' (w3.setCell ⟨E, 4, none⟩ (.slice (some ⟨g, 0, none⟩) (ts.length + 1) cap)) vc vt vb (.slice (some ⟨g, 0, none⟩) (ts.length + 1) cap) (ts ++ [t]) (n + n2) (s + s2) ao' l' c' cnt' := by
  obtain ⟨hl1, hl2, hl3⟩ := h.lt
  have hltE := lt_of_blk h.at_
  have hsa := alloc_size wx (.cells t.v 61)
  have hs3 := hgr.size
  have hso := h.new.g.size
  have key : ∀ b, b < wx.heap.size → v4.ownBlock ≠ some b → w3.heap[b]? = wx.heap[b]? := fun b hb hn =>
    (hgr.block b (by omega) (fun e => hn e.symm)).trans ((grown_alloc wx _).block b hb (by simp))
  have hoE : ∀ b, b ≤ E → v4.ownBlock ≠ some b := fun b hb e => by have := (h.ownlt e).1; omega
  have hE3 : w3.heap[E]? = some (.cells #[.int .u8 vc, .int .u32 vt, .bool vb, a3, v4] 61 (0, 0)) := (key _ hltE (hoE _ (Nat.le_refl _))).trans h.at_
  have hlt3 := lt_of_blk hE3
  have hgE : g ≠ E := fun e => by
    rcases hor with h1 | h1
    · exact hoE _ (by omega) h1
    · omega
  rw [setCell_blk hE3]
  have hg4 : w3.grownBy (setBlk w3 E (.cells (#[Value.int .u8 vc, .int .u32 vt, .bool vb, a3, v4].setIfInBounds 4 (.slice (some ⟨g, 0, none⟩) (ts.length + 1) cap)) 61 (0, 0))) (some E) :=
    ⟨rfl, rfl, rfl, by rw [setBlk_size]; exact Nat.le_refl _, fun b hb hn => by rw [setBlk_get hlt3, if_neg (fun e => hn (by rw [e]))]⟩
  have hA : ∀ b, χ'.A b → (setBlk w3 E (.cells (#[Value.int .u8 vc, .int .u32 vt, .bool vb, a3, v4].setIfInBounds 4 (.slice (some ⟨g, 0, none⟩) (ts.length + 1) cap)) 61 (0, 0))).heap[b]? = wx.heap[b]? := fun b hb => by
    rw [setBlk_get hlt3, if_neg (fun e : b = E => h.nE (e ▸ hb))]
    exact key b (h.dec.inv.lt hb) (fun e => h.nv b e hb)
  have hlow : ∀ b, b < E → (setBlk w3 E (.cells (#[Value.int .u8 vc, .int .u32 vt, .bool vb, a3, v4].setIfInBounds 4 (.slice (some ⟨g, 0, none⟩) (ts.length + 1) cap)) 61 (0, 0))).heap[b]? = wx.heap[b]? := fun b hb => by
    rw [setBlk_get hlt3, if_neg (by omega)]
    exact key b (by omega) (hoE b (by omega))
  have hlen : (ts ++ [t]).length = ts.length + 1 := by simp
  have hd := h.dec
  refine ⟨by rw [setBlk_get hlt3, if_pos rfl]; rfl, h.c0, h.t0, ?_, ?_, ?_, ?_, ⟨hd.inv.same hA, hd.nA, (hlow D (by omega)).trans hd.at_, hd.lc, hd.cc, hd.ll, hd.cn, hd.row⟩, hc2, ⟨h.new.ext, ⟨?_, ?_, ?_, ?_, fun b hb hn => ?_⟩, h.new.Fn, h.new.An⟩, h.nE, (hlow E4 hl3).trans h.e4, h.n4, h.lt⟩
  · have e : partsV (ts ++ [t]) = partsV ts ++ t.v.toList := by simp [partsV]
    rw [e, hlen]
    exact own3.kept hg4 (.inr (by simp only [Value.ownBlock]; exact fun e => hgE (by cases e; rfl)))
  · intro g' cs E' fz h1 h2
    rw [setBlk_get hlt3, if_neg (fun e => by simp only [Value.ownBlock, Option.some.injEq] at h1; exact hgE (h1.trans e))] at h2
    exact hone g' cs E' fz h1 h2
  · intro b hb
    simp only [Value.ownBlock, Option.some.injEq] at hb
    subst hb
    rcases hor with h1 | h1
    · exact h.nv g h1
    · exact fun hA' => by have := h.dec.inv.lt hA'; omega
  · exact (h.kids.same h.dec.inv.sub (Ext.refl 0 χ') hA).snoc ht (hT.same (Ext.refl 0 χ') hA)
  · exact hgr.os.trans h.new.g.os
  · exact hgr.tape.trans h.new.g.tape
  · exact hgr.output.trans h.new.g.output
  · rw [setBlk_size]; omega
  · exact (hlow b (by omega)).trans (h.new.g.block b hb hn)

theorem PSt.put3 {χ : Chi} {w : World} {D E4 E : Nat} {cnt0 : Int} {d : Nat} {a3 : Value} {χ' : Chi} {wx : World} {vc vt : Int} {vb : Bool} {v4 : Value} {ts : List TN} {n s : Nat} {ao' : Option Addr} {l' c' : Nat} {cnt' : Int}
    (h : PSt χ w D E4 E cnt0 d a3 χ' wx vc vt vb v4 ts n s ao' l' c' cnt') (a : Value) : PSt χ w D E4 E cnt0 d a χ' (wx.setCell ⟨E, 3, none⟩ a) vc vt vb v4 ts n s ao' l' c' cnt' := by
  obtain ⟨hl1, hl2, hl3⟩ := h.lt
  have hltE := lt_of_blk h.at_
  have hso := h.new.g.size
  rw [setCell_blk h.at_]
  have hg : wx.grownBy (setBlk wx E (.cells (#[Value.int .u8 vc, .int .u32 vt, .bool vb, a3, v4].setIfInBounds 3 a) 61 (0, 0))) (some E) :=
    ⟨rfl, rfl, rfl, by rw [setBlk_size]; exact Nat.le_refl _, fun b hb hn => by rw [setBlk_get hltE, if_neg (fun e => hn (by rw [e]))]⟩
  have hA : ∀ b, χ'.A b → (setBlk wx E (.cells (#[Value.int .u8 vc, .int .u32 vt, .bool vb, a3, v4].setIfInBounds 3 a) 61 (0, 0))).heap[b]? = wx.heap[b]? := fun b hb => by
    rw [setBlk_get hltE, if_neg (fun e : b = E => h.nE (e ▸ hb))]
  have hne : v4.ownBlock ≠ some E := fun e => by have := (h.ownlt e).1; omega
  refine ⟨by rw [setBlk_get hltE, if_pos rfl]; rfl, h.c0, h.t0, h.own.kept hg (.inr hne), fun g cs E' fz h1 h2 => ?_, h.nv, h.kids.same h.dec.inv.sub (Ext.refl 0 χ') hA, h.dec.setOther h.at_ (by omega) h.nE _, h.cnt, h.new.setOther hltE (by omega) _, h.nE, ?_, h.n4, h.lt⟩
  · rw [setBlk_get hltE, if_neg (fun e => hne (by rw [h1, e]))] at h2
    exact h.one g cs E' fz h1 h2
  · rw [setBlk_get hltE, if_neg (by omega)]; exact h.e4

theorem PSt.run {χ : Chi} {w : World} {D E4 E : Nat} {cnt0 : Int} {d : Nat} {a3 : Value} {χ' : Chi} {wx : World} {vc vt : Int} {vb : Bool} {v4 : Value} {ts : List TN} {n s : Nat} {ao' : Option Addr} {l' c' : Nat} {cnt' : Int}
    (h : PSt χ w D E4 E cnt0 d a3 χ' wx vc vt vb v4 ts n s ao' l' c' cnt') {t : TN} {n2 s2 : Nat} (ht : TF χ' t) (hT : TreeAt χ' wx d n2 s2 t) (hc2 : cnt0 + 1 + (n + n2 : Nat) ≤ cnt') (hlen : ts.length ≤ 100000) :
    ∃ g cap w10, (Builtin.append_ #[59, 59] 59 #[v4, .slice (some ⟨wx.heap.size, 0, none⟩) 1 1]).run Tryz.prog (wx.alloc (.cells #[.int .u8 t.vc, .int .u32 t.vt, .bool t.vb, .slice t.a3 t.l3 t.c3, .slice t.a4 t.l4 t.c4] 61)) = .ok (.slice (some ⟨g, 0, none⟩) (ts.length + 1) cap) w10 ∧
      w10.cell? ⟨E, 4, none⟩ = some v4 ∧ w10.frozen? ⟨E, 4, none⟩ = false ∧
      PSt χ w D E4 E cnt0 d a3 χ' (w10.setCell ⟨E, 4, none⟩ (.slice (some ⟨g, 0, none⟩) (ts.length + 1) cap)) vc vt vb (.slice (some ⟨g, 0, none⟩) (ts.length + 1) cap) (ts ++ [t]) (n + n2) (s + s2) ao' l' c' cnt' := by
  have hltE := lt_of_blk h.at_
  have hsa := alloc_size wx (.cells t.v 61)
  have hB : (wx.alloc (.cells t.v 61)).heap[wx.heap.size]? = some (.cells t.v 61 (0, 0)) := by rw [alloc_get, if_pos rfl]
  have hone : OneAt (wx.alloc (.cells t.v 61)) v4 := fun g cs E' fz h1 h2 => by
    have := (h.ownlt h1).2
    rw [alloc_get, if_neg (by omega)] at h2
    exact h.one g cs E' fz h1 h2
  obtain ⟨g, cap, w10, hrun, own10, hgr10, hor10, hglt, hone10⟩ := own_append (h.own.alloc (.cells t.v 61)) hone hB hlen (by omega) 59
  have hE10 : w10.heap[E]? = some (.cells #[.int .u8 vc, .int .u32 vt, .bool vb, a3, v4] 61 (0, 0)) :=
    (hgr10.block E (by omega) (fun e => by have := (h.ownlt e.symm).1; omega)).trans (((grown_alloc wx _).block E hltE (by simp)).trans h.at_)
  exact ⟨g, cap, w10, hrun, by rw [cell?_blk hE10]; rfl, by rw [frozen?_blk hE10]; simp, h.append ht hT hc2 own10 hgr10 hor10 hone10⟩

end Go.Sx

namespace Go.Sx
open Go Go.Proofs

def Mid2J (χ : Chi) (w : World) (D l : Nat) (cnt : Int) (d E4 E : Nat) (wx : World) : Prop :=
  ∃ (χ' : Chi) (vc vt : Int) (vb : Bool) (a3 : Option Addr) (l3 c3 : Nat) (v4 : Value) (ts : List TN) (n s : Nat) (ao' : Option Addr) (l' c' : Nat) (cnt' : Int),
    PSt χ w D E4 E cnt d (.slice a3 l3 c3) χ' wx vc vt vb v4 ts n s ao' l' c' cnt' ∧ (l3 ≤ c3 ∧ l3 ≤ LB ∧ c3 ≤ CB) ∧ RowOK χ' χ'.F oct a3 c3 ∧ l3 + s + l' + 1 ≤ l ∧ ts.length ≤ 100000

def LoopJ (χ : Chi) (w : World) (D : Nat) (cnt : Int) (d E4 E lm k : Nat) (wx : World) : Prop :=
  ∃ (χ' : Chi) (vc vt : Int) (vb : Bool) (v4 : Value) (ts : List TN) (n s : Nat) (ao' : Option Addr) (l' c' : Nat) (cnt' : Int),
    PSt χ w D E4 E cnt d (.slice none 0 0) χ' wx vc vt vb v4 ts n s ao' l' c' cnt' ∧ s + l' ≤ lm ∧ ts.length + l' ≤ 65536 ∧ l' ≤ k

set_option maxRecDepth 100000 in
set_option maxHeartbeats 3200000 in
theorem element2_any : ∀ k dp : Nat, dp + k = 17 → ∀ {χ : Chi} {w : World} {D : Nat} {ao : Option Addr} {l c : Nat} {cnt : Int}, Dec χ w D ao l c cnt →
    Calls Tryz.prog 128 #[.pointer (some ⟨D, 0, none⟩), .int .i64 (dp : Int)] w (Elem2 χ w D l cnt k) := by
  intro k
  induction k with
  | zero =>
    intro dp hdp χ w D ao l c cnt h
    obtain rfl : dp = 17 := by omega
    have hg0 := grown_alloc w (.cells #[.int .u8 0, .int .u32 0, .bool false, .slice none 0 0, .slice none 0 0] 61)
    have hd0 := h.grown hg0
    go_enter Tryz.func128, Tryz.ntmps128
    go_wp2_with fail
    refine (must_any _ _ (by omega) (by omega)).mono ?_
    rintro e w3 ⟨rfl, (⟨hb3, rfl⟩ | ⟨hb3, hR⟩)⟩
    · cases hb3
    · obtain ⟨n, n0, n1, rfl⟩ := hR
      exact ⟨rfl, elem2_raised (raised_mk n0 n1) (NewD.of_grown (grown_some hg0)) hd0.inv hd0.nA⟩
  | succ k ih =>
    intro dp hdp χ w D ao l c cnt h
    have hd16 : dp ≤ 16 := by omega
    have hil : decide ((dp : Int) ≤ 16) = true := by simp; omega
    have hil2 : decide (dp ≤ 16) = true := by simp; omega
    have hil3 : (dp : Int) ≤ 16 := by omega
    have hdp0 : (0 : Int) ≤ (dp : Int) := by omega
    have hg0 := grown_alloc w (.cells #[.int .u8 0, .int .u32 0, .bool false, .slice none 0 0, .slice none 0 0] 61)
    have hd0 := h.grown hg0
    have hE4 : (w.alloc (.cells #[.int .u8 0, .int .u32 0, .bool false, .slice none 0 0, .slice none 0 0] 61)).heap[w.heap.size]? = some (.cells #[.int .u8 0, .int .u32 0, .bool false, .slice none 0 0, .slice none 0 0] 61 (0, 0)) := by rw [alloc_get, if_pos rfl]
    have hDn : w.heap.size ≠ D := Nat.ne_of_gt h.lt
    have hDl : D < w.heap.size := h.lt
    have hnA : ¬ χ.A w.heap.size := fun hA => by have := h.inv.lt hA; omega
    have hc1 := hd0.c1
    have hcn := h.cn
    have hf1 := hd0.f 1
    clear h
    go_enter Tryz.func128, Tryz.ntmps128
    go_wp2_with fail
    generalize hw1 : w.alloc (.cells #[.int .u8 0, .int .u32 0, .bool false, .slice none 0 0, .slice none 0 0] 61) = w1 at *
    refine (must_any _ _ (by omega) (by omega)).mono ?_
    rintro e w1 ⟨rfl, (⟨hb3, rfl⟩ | ⟨hb3, hR⟩)⟩
    rotate_left
    · obtain ⟨n, n0, n1, rfl⟩ := hR
      exact ⟨rfl, elem2_raised (raised_mk n0 n1) (NewD.of_grown (grown_some hg0)) hd0.inv hd0.nA⟩
    have hcl : cnt < 1024 := by simpa using hb3
    obtain ⟨hd2, hg2⟩ := hd0.putN (n := cnt + 1) (by omega)
    have hE4b := (hg2.block _ (lt_of_blk hE4) (fun e => hDn (by cases e; rfl))).trans hE4
    clear hb3 hE4 hd0
    go_wp2_with fail
    clear hc1 hf1
    generalize w1.setCell ⟨D, 1, none⟩ (.int .i64 (cnt + 1)) = w2 at *
    refine (next_any hd2).mono ?_
    rintro e w3 ⟨hg3, (⟨h1, x, ao1, hx0, hx1, rfl, hd3⟩ | hR)⟩
    rotate_left
    · obtain ⟨n, n0, n1, rfl⟩ := hR
      exact ⟨rfl, elem2_raised (raised_mk n0 n1) (NewD.of_grown (grown_transD (grown_transD (grown_some hg0) hg2) hg3)) (inv_grownD hd2.inv hd2.nA hg3) hd2.nA⟩
    have hgw3 := grown_transD (grown_transD (grown_some hg0) hg2) hg3
    have hE4c := (hg3.block _ (lt_of_blk hE4b) (fun e => hDn (by cases e; rfl))).trans hE4b
    have hs4 := lt_of_blk hE4c
    clear hE4b hd2 hg2 hg3
    have hx64 : 0 ≤ x / 64 := by omega
    have hx65 : x / 64 ≤ 255 := by omega
    have ha1 := bits_and_u8 x 31
    have ha2 := bits_and_u8 x 32
    go_upto_if 43 with fail
    generalize hvb : decide (0 < bits BinOp.and IntKind.u8 x 32) = vb at *
    clear hvb ha1 ha2
    have hg4 := grown_alloc w3 (.cells #[.int .u8 (x / 64), .int .u32 (x % 32), .bool vb, .slice none 0 0, .slice none 0 0] 61)
    have hE6 : (w3.alloc (.cells #[.int .u8 (x / 64), .int .u32 (x % 32), .bool vb, .slice none 0 0, .slice none 0 0] 61)).heap[w3.heap.size]? = some (.cells #[.int .u8 (x / 64), .int .u32 (x % 32), .bool vb, .slice none 0 0, .slice none 0 0] 61 (0, 0)) := by rw [alloc_get, if_pos rfl]
    have hE4d := (hg4.block _ hs4 (by simp)).trans hE4c
    have hd4 := hd3.grown hg4
    have hgw4 := grown_transD hgw3 (grown_some hg4)
    have hED : w3.heap.size ≠ D := Nat.ne_of_gt hd3.lt
    have hnA6 : ¬ χ.A w3.heap.size := fun hA => by have := hd3.inv.lt hA; omega
    have hEE : w.heap.size < w3.heap.size := hs4
    generalize w3.alloc (.cells #[.int .u8 (x / 64), .int .u32 (x % 32), .bool vb, .slice none 0 0, .slice none 0 0] 61) = w4 at *
    generalize w3.heap.size = E at *
    clear hE4c hd3 hg4 hgw3 hs4
    go_cut [] (fun wx => Mid1 χ w D l cnt w.heap.size E (x / 64) vb wx)
    case first =>
      go_wp2_with fail
      · refine (number_any hd4).mono ?_
        rintro e w5 ⟨hg5, (⟨y, ao2, l2, c2, hy0, hy1, rfl, hl2, hd5⟩ | hR)⟩
        rotate_left
        · obtain ⟨n, n0, n1, rfl⟩ := hR
          exact ⟨rfl, elem2_raised (raised_mk n0 n1) (NewD.of_grown (grown_transD hgw4 hg5)) (inv_grownD hd4.inv hd4.nA hg5) hd4.nA⟩
        have hE7 := (hg5.block _ (lt_of_blk hE6) (fun e => hED (by cases e; rfl))).trans hE6
        have hE4e := (hg5.block _ (lt_of_blk hE4d) (fun e => hDn (by cases e; rfl))).trans hE4d
        have hgw5 := grown_transD hgw4 hg5
        have k1 : w5.cell? ⟨E, 1, none⟩ = some (.int .u32 (x % 32)) := by rw [cell?_blk hE7]; rfl
        have k2 : w5.frozen? ⟨E, 1, none⟩ = false := by rw [frozen?_blk hE7]; simp
        have HM : (Mid1 χ w D l cnt w.heap.size E (x / 64) vb (w5.setCell ⟨E, 1, none⟩ (.int .u32 y))) := by
          rw [setCell_blk hE7]
          exact ⟨y, ao2, l2, c2, hy0, hy1, by rw [setBlk_get (lt_of_blk hE7), if_pos rfl]; rfl, hd5.setOther hE7 hED hnA6 _, by omega, grown_setOther hgw5 (lt_of_blk hE7) (by omega) _, by rw [setBlk_get (lt_of_blk hE7), if_neg (by omega)]; exact hE4e⟩
        clear hE6 hE7 hE4d hE4e hd4 hd5
        go_wp2_with fail
        go_meet
        exact HM
      · go_meet
        exact ⟨x % 32, ao1, l - 1, c - 1, by omega, by omega, hE6, hd4, by omega, hgw4, hE4d⟩
    case rest =>
      obtain ⟨t, ao2, l2, c2, ht0, ht1, hE7, hd5, hl2, hgw5, hE4e⟩ := hcut
      have k0 : wc.cell? ⟨E, 0, none⟩ = some (.int .u8 (x / 64)) := by rw [cell?_blk hE7]; rfl
      have k1 : wc.cell? ⟨E, 1, none⟩ = some (.int .u32 t) := by rw [cell?_blk hE7]; rfl
      have k2 : wc.cell? ⟨E, 2, none⟩ = some (.bool vb) := by rw [cell?_blk hE7]; rfl
      have k3 : wc.cell? ⟨E, 3, none⟩ = some (.slice none 0 0) := by rw [cell?_blk hE7]; rfl
      have k4 : wc.cell? ⟨E, 4, none⟩ = some (.slice none 0 0) := by rw [cell?_blk hE7]; rfl
      clear hE6 hd4 hgw4 hE4d
      go_upto_region 7 with fail
      go_cut [] (fun wx => wx = wc)
      case first =>
        go_wp2_with fail
        all_goals
          refine (must_any _ _ (by omega) (by omega)).mono ?_
          rintro e wd ⟨hwd, (⟨hb3, rfl⟩ | ⟨hb3, hR⟩)⟩
          rotate_left
          · obtain ⟨n, n0, n1, rfl⟩ := hR
            subst hwd
            exact ⟨rfl, elem2_raised (raised_mk n0 n1) (NewD.of_grown hgw5) hd5.inv hd5.nA⟩
          have HB := Lib.hid hb3
          clear hb3
          go_wp2_with fail
          go_meet
          first | exact rfl | exact hwd
      case rest =>
        subst hcut
        have hlen := length_any hd5 (x / 64) t vb (.slice none 0 0) (.slice none 0 0) rfl rfl
        go_wp2_with fail
        refine hlen.mono ?_
        clear hlen
        rintro e w6 ⟨hg6, (⟨n, ok, ao3, l3, c3, hn, rfl, hl3, hd6⟩ | hR)⟩
        rotate_left
        · obtain ⟨n, n0, n1, rfl⟩ := hR
          exact ⟨rfl, elem2_raised (raised_mk n0 n1) (NewD.of_grown (grown_transD hgw5 hg6)) (inv_grownD hd5.inv hd5.nA hg6) hd5.nA⟩
        have hE8 := (hg6.block _ (lt_of_blk hE7) (fun e => hED (by cases e; rfl))).trans hE7
        have hE4f := (hg6.block _ (lt_of_blk hE4e) (fun e => hDn (by cases e; rfl))).trans hE4e
        have hgw6 := grown_transD hgw5 hg6
        clear k0 k1 k2 k3 k4 hd5 hE7 hE4e hg6 hgw5
        go_upto_block 0 with fail
        have hx64' : 0 ≤ x / 64 ∧ x / 64 ≤ 255 := ⟨hx64, hx65⟩
        generalize x / 64 = vc at *
        go_cut [] (fun wx => Mid2J χ w D l cnt k w.heap.size E wx)
        case first =>
          have hs6 := NewD.of_grown (χ := χ) hgw6
          have P6 : PSt χ w D w.heap.size E cnt k (.slice none 0 0) χ w6 vc t vb (.slice none 0 0) [] 0 0 ao3 l3 c3 (cnt + 1) :=
            ⟨hE8, hx64', ⟨ht0, ht1⟩, World.ownsRow_nil _ _ _ _, fun _ _ _ _ h => (nomatch h), fun _ h => (nomatch h), KidsAt.nil _ _ _, hd6, by omega, hs6, hnA6, hE4f, hnA, ⟨by have := hDl; omega, Nat.le_refl _, hEE⟩⟩
          cases ok with
          | false =>
            go_wp2_with fail
            go_loopg [] l3 (fun j wr => LoopJ χ w D cnt k w.heap.size E l3 j wr)
            case atStart => exact ⟨χ, vc, t, vb, _, [], 0, 0, ao3, l3, c3, cnt + 1, P6, by omega, by have := hd6.ll; simp; omega, Nat.le_refl _⟩
            case round =>
              obtain ⟨χ1, vc1, vt1, vb1, v4, ts, n5, s5, ao5, l5, c5, cnt5, P7, hlm, htl, hlk⟩ := hrel
              have hd7 := P7.dec
              have hah := ahead_any hd7
              clear hE8 hE4f hd6 hs6 hgw6 P6
              go_wp2_with fail
              refine hah.mono ?_
              clear hah
              rintro e w8 ⟨hg8, (⟨b, ao6, l6, c6, rfl, hl6, hl5, hd8⟩ | hR)⟩
              rotate_left
              · obtain ⟨n, n0, n1, rfl⟩ := hR
                exact ⟨rfl, elem2_raised (raised_mk n0 n1) (P7.new.trans (NewD.of_grown hg8)) (inv_grownD hd7.inv hd7.nA hg8) hd7.nA⟩
              have P8 := P7.step (NewD.of_grown (χ := χ1) hg8) hd8 (Int.le_refl _)
              clear P7 hd7 hg8
              cases gk with
              | zero => omega
              | succ k' =>
                cases b with
                | false =>
                  have HM : Mid2J χ w D l cnt k w.heap.size E w8 := ⟨χ1, vc1, vt1, vb1, none, 0, 0, v4, ts, n5, s5, ao6, l6, c6, cnt5, P8, ⟨Nat.le_refl _, by unfold LB; omega, by unfold CB; omega⟩, rfl, by omega, by omega⟩
                  clear P8 hd8
                  go_wp2_with fail
                  go_meet
                  exact HM
                | true =>
                  have hwr : IntKind.i64.wrap ((dp : Int) + 1) = (dp : Int) + 1 := wrap_id (by show (-9223372036854775808 : Int) ≤ _; omega) (by show _ ≤ (9223372036854775807 : Int); omega)
                  have hdd := hd8.grown (grown_drew0 w8)
                  have Pd := P8.step (NewD.of_grown (D := D) (χ := χ1) (grown_some (grown_drew0 w8))) hdd (Int.le_refl _)
                  have hih := ih (dp + 1) (by omega) hdd
                  rw [show ((dp + 1 : Nat) : Int) = (dp : Int) + 1 from rfl] at hih
                  have k4 : w8.drew.cell? ⟨E, 4, none⟩ = some v4 := by rw [cell?_blk Pd.at_]; rfl
                  clear P8 hd8
                  go_wp2_with fail
                  go_region_law (first
                    | (refine step_call2 (vx := .pointer (some ⟨D, 0, none⟩)) (vy := .int .i64 ((dp : Int) + 1)) rfl 128 (.tmp 77) (.tmp 79) #[183, 3] rfl element_cal (by go_simp) (by go_simp; try exact hwr) hih (fun e w9 h => ?_)
                       rcases h with ⟨χ2, t2, n2, s2, ao9, l9, c9, cnt9, he, hT2, hTr2, hd9, hl9, hc9, hN9⟩ | ⟨hR, χ2, hN9, hi9, hA9⟩
                       rotate_left
                       · obtain ⟨n, n0, n1, rfl⟩ := hR
                         exact .inr ⟨_, rfl, rfl, elem2_raised (raised_mk n0 n1) (Pd.new.trans hN9) hi9 hA9⟩
                       unfold TN.agg at he
                       subst he
                       have P9 := Lib.hid (Pd.step hN9 hd9 (by omega))
                       have k5 : w9.cell? ⟨E, 4, none⟩ = some v4 := by rw [cell?_blk P9.out.at_]; rfl
                       have k5a : (w9.alloc (.cells #[.int .u8 t2.vc, .int .u32 t2.vt, .bool t2.vb, .slice t2.a3 t2.l3 t2.c3, .slice t2.a4 t2.l4 t2.c4] 61)).cell? ⟨E, 4, none⟩ = some v4 := (World.cell?_alloc_past _ _ _ (lt_of_blk P9.out.at_)).trans k5
                       obtain ⟨g, cap, w10, hrun, k6, k6f, P10⟩ := P9.out.run hT2 hTr2 (by have := Pd.cnt; omega) (by omega)
                       have HM : LoopJ χ w D cnt k w.heap.size E l3 k' (w10.setCell ⟨E, 4, none⟩ (.slice (some ⟨g, 0, none⟩) (ts.length + 1) cap)) :=
                         ⟨χ2, vc1, vt1, vb1, _, ts ++ [t2], n5 + n2, s5 + s2, ao9, l9, c9, cnt9, P10, by omega, by simp; omega, by omega⟩
                       have hlenI : ((ts.length : Int) + 1) = ((ts.length + 1 : Nat) : Int) := rfl
                       clear P9 P10 hd9 hN9 hT2 hTr2
                       refine .inl ⟨_, rfl, ?_⟩)
                    | (refine step_append_run (vs := v4) (vx := .slice (some ⟨w9.heap.size, 0, none⟩) 1 1) rfl (.tmp 76) (.tmp 81) 59 59 rfl (by go_simp) (by go_simp) hrun ?_))
                  all_goals
                    go_wp2_with fail
                    go_roundg k'
                    case measure => exact Nat.lt_succ_self k'
                    exact HM
          | true =>
            have k2 : w6.cell? ⟨E, 2, none⟩ = some (.bool vb) := by rw [cell?_blk hE8]; rfl
            cases vb with
            | true =>
              have htake := take_any (n := n) hd6 (by omega)
              have hl36 := hd6.lc
              have hc36 := hd6.cc
              have hl65 := hd6.ll
              have hrow3 := hd6.row
              go_wp2_with fail
              refine htake.mono ?_
              clear htake
              rintro e w7 ⟨hg7, (⟨hnl, rfl, ao5, hd7⟩ | hR)⟩
              rotate_left
              · obtain ⟨n, n0, n1, rfl⟩ := hR
                exact ⟨rfl, elem2_raised (raised_mk n0 n1) (hs6.trans (NewD.of_grown hg7)) (inv_grownD hd6.inv hd6.nA hg7) hd6.nA⟩
              have P7 := P6.step (NewD.of_grown (χ := χ) hg7) hd7 (Int.le_refl _)
              have hc0 := hd7.c0
              have hf0 := hd7.f 0
              have hrow5 := hd7.row
              have hl57 := hd7.lc
              have hc57 := hd7.cc
              obtain ⟨hd7', hg7'⟩ := hd7.put (ao' := ao3) (l' := n) (c' := c3) (by omega) hc36 (by omega) hrow3
              have P7' := P7.step (NewD.of_grown (χ := χ) hg7') hd7' (Int.le_refl _)
              clear hE8 hE4f hd6 hd7 hg7 hg7' hs6 hgw6 P6 P7
              go_wp2_with fail
              clear hc0 hf0
              generalize w7.setCell ⟨D, 0, none⟩ (.slice ao3 n c3) = w8' at *
              go_loopg [] n (fun j wr => LoopJ χ w D cnt k w.heap.size E n j wr)
              case atStart => exact ⟨χ, vc, t, true, _, [], 0, 0, ao3, n, c3, cnt + 1, P7', by omega, by simp; omega, Nat.le_refl _⟩
              case round =>
                clear P7' hd7'
                obtain ⟨χ1, vc1, vt1, vb1, v4, ts, n5, s5, ao5', l5, c5, cnt5, P8, hlm, htl, hlk⟩ := hrel
                have hd8 := P8.dec
                have q0 := hd8.c0
                by_cases hz : l5 = 0
                · have hff := hd8.f 0
                  obtain ⟨hd10, hg10⟩ := hd8.put (ao' := ao5) (l' := l3 - n) (c' := c3 - n) hl57 hc57 (by omega) (hrow5.ext P8.new.ext P8.new.ext.A (fun _ h => h))
                  have P10 := P8.step (NewD.of_grown (χ := χ1) hg10) hd10 (Int.le_refl _)
                  have HM : Mid2J χ w D l cnt k w.heap.size E (wr.setCell ⟨D, 0, none⟩ (.slice ao5 (l3 - n) (c3 - n))) := ⟨χ1, vc1, vt1, vb1, none, 0, 0, v4, ts, n5, s5, ao5, l3 - n, c3 - n, cnt5, P10, ⟨Nat.le_refl _, by unfold LB; omega, by unfold CB; omega⟩, rfl, by omega, by omega⟩
                  subst hz
                  clear P8 P10 hd8 hd10 hg10
                  go_wp2_with fail
                  go_meet
                  exact HM
                · have hpos : (0 : Int) < (l5 : Int) := by omega
                  have hpos2 : decide ((0 : Int) < (l5 : Int)) = true := by simp; omega
                  cases gk with
                  | zero => omega
                  | succ k' =>
                  have hlk' : l5 ≤ k' + 1 := hlk
                  have hwr : IntKind.i64.wrap ((dp : Int) + 1) = (dp : Int) + 1 := wrap_id (by show (-9223372036854775808 : Int) ≤ _; omega) (by show _ ≤ (9223372036854775807 : Int); omega)
                  have hdd := hd8.grown (grown_drew0 wr)
                  have Pd := P8.step (NewD.of_grown (D := D) (χ := χ1) (grown_some (grown_drew0 wr))) hdd (Int.le_refl _)
                  have hih := ih (dp + 1) (by omega) hdd
                  rw [show ((dp + 1 : Nat) : Int) = (dp : Int) + 1 from rfl] at hih
                  have k4 : wr.drew.cell? ⟨E, 4, none⟩ = some v4 := by rw [cell?_blk Pd.at_]; rfl
                  clear P8 hd8
                  go_wp2_with fail
                  go_region_law (first
                    | (refine step_call2 (vx := .pointer (some ⟨D, 0, none⟩)) (vy := .int .i64 ((dp : Int) + 1)) rfl 128 (.tmp 111) (.tmp 113) #[183, 3] rfl element_cal (by go_simp) (by go_simp; try exact hwr) hih (fun e w9 h => ?_)
                       rcases h with ⟨χ2, t2, n2, s2, ao9, l9, c9, cnt9, he, hT2, hTr2, hd9, hl9, hc9, hN9⟩ | ⟨hR, χ2, hN9, hi9, hA9⟩
                       rotate_left
                       · obtain ⟨n, n0, n1, rfl⟩ := hR
                         exact .inr ⟨_, rfl, rfl, elem2_raised (raised_mk n0 n1) (Pd.new.trans hN9) hi9 hA9⟩
                       unfold TN.agg at he
                       subst he
                       have P9 := Lib.hid (Pd.step hN9 hd9 (by omega))
                       have k5 : w9.cell? ⟨E, 4, none⟩ = some v4 := by rw [cell?_blk P9.out.at_]; rfl
                       have k5a : (w9.alloc (.cells #[.int .u8 t2.vc, .int .u32 t2.vt, .bool t2.vb, .slice t2.a3 t2.l3 t2.c3, .slice t2.a4 t2.l4 t2.c4] 61)).cell? ⟨E, 4, none⟩ = some v4 := (World.cell?_alloc_past _ _ _ (lt_of_blk P9.out.at_)).trans k5
                       obtain ⟨g, cap, w10, hrun, k6, k6f, P10⟩ := P9.out.run hT2 hTr2 (by have := Pd.cnt; omega) (by omega)
                       have HM : LoopJ χ w D cnt k w.heap.size E n k' (w10.setCell ⟨E, 4, none⟩ (.slice (some ⟨g, 0, none⟩) (ts.length + 1) cap)) :=
                         ⟨χ2, vc1, vt1, vb1, _, ts ++ [t2], n5 + n2, s5 + s2, ao9, l9, c9, cnt9, P10, by omega, by simp; omega, by omega⟩
                       clear P9 P10 hd9 hN9 hT2 hTr2
                       refine .inl ⟨_, rfl, ?_⟩)
                    | (refine step_append_run (vs := v4) (vx := .slice (some ⟨w9.heap.size, 0, none⟩) 1 1) rfl (.tmp 110) (.tmp 115) 59 59 rfl (by go_simp) (by go_simp) hrun ?_))
                  all_goals
                    go_wp2_with fail
                    go_roundg k'
                    case measure => exact Nat.lt_succ_self k'
                    exact HM
            | false =>
              go_wp2_with fail
              have htake := take_any (n := n) hd6 (by omega)
              refine htake.mono ?_
              clear htake
              rintro e w7 ⟨hg7, (⟨hnl, rfl, ao5, hd7⟩ | hR)⟩
              rotate_left
              · obtain ⟨n, n0, n1, rfl⟩ := hR
                exact ⟨rfl, elem2_raised (raised_mk n0 n1) (hs6.trans (NewD.of_grown hg7)) (inv_grownD hd6.inv hd6.nA hg7) hd6.nA⟩
              have P7 := P6.step (NewD.of_grown (χ := χ) hg7) hd7 (Int.le_refl _)
              have hclone := bclone_new (l := n) hd7.inv (by have := hd6.ll; omega) (by have := hd6.lc; omega) hd6.cc hd6.row D
              clear hE8 hE4f hg7 hs6 hgw6 P6
              go_wp2_with fail
              refine hclone.mono ?_
              clear hclone
              rintro e w8 ⟨ao6, c6, χ6, rfl, hi6, hN6, hg68, q1, q2, q3⟩
              have hd8 : Dec χ6 w8 D ao5 (l3 - n) (c3 - n) (cnt + 1) := ⟨hi6, fun h => (hN6.An D h).elim hd7.nA (fun h => by have := hd7.lt; omega), (hg68.block D hd7.lt (by simp)).trans hd7.at_, hd7.lc, hd7.cc, hd7.ll, hd7.cn, hd7.row.ext hN6.ext hN6.ext.A (fun _ h => h)⟩
              have P8 := P7.step hN6 hd8 (Int.le_refl _)
              have hclip := clip_val (w := w8) (ao := ao6) (l := n) (c := c6) q1 (by have := hd6.ll; omega)
              clear P7
              go_wp2_with fail
              refine hclip.mono ?_
              clear hclip
              rintro e w9 ⟨rfl, hw9⟩
              subst hw9
              have hE11 := P8.at_
              have k3 : w9.cell? ⟨E, 3, none⟩ = some (.slice none 0 0) := by rw [cell?_blk hE11]; rfl
              have k3f : w9.frozen? ⟨E, 3, none⟩ = false := by rw [frozen?_blk hE11]; simp
              have HM : Mid2J χ w D l cnt k w.heap.size E (w9.setCell ⟨E, 3, none⟩ (.slice ao6 n n)) := by
                have h1 := (P8.put3 (.slice ao6 n n))
                exact ⟨χ6, vc, t, false, ao6, n, n, _, [], 0, 0, ao5, l3 - n, c3 - n, cnt + 1, h1, ⟨Nat.le_refl _, by unfold LB; have := hd6.ll; omega, by unfold CB; have := hd6.ll; omega⟩, row_short q3 q1, by omega, by simp⟩
              clear hE11 hd7 hd8 P8 hN6 hd6
              go_wp2_with fail
              go_meet
              exact HM
        case rest =>
          obtain ⟨χ1, vc1, vt1, vb1, ao5, l5, c5, v4, ts, n5, s5, ao7, l7, c7, cnt7, P9, hl5, hr5, hsl, htl⟩ := hcut
          obtain ⟨χ2, ao6, c6, rfl, hi2, hx2, hF2, hA2, q1, q2, q3, hTr⟩ := kids_adopt P9.dec.inv P9.own P9.one P9.nv P9.kids
          have hclip := tclip_val (w := wc) (ao := ao6) (l := ts.length) (c := c6) q1 (by omega)
          have hE9 := P9.at_
          have hE4g := P9.e4
          have hno : ∀ b, b ≤ E → Value.ownBlock (.slice ao6 ts.length c6) ≠ some b := fun b hb e => by have := (P9.ownlt e).1; omega
          have hnE2 : ¬ χ2.A E := fun h => (hA2 E h).elim P9.nE (hno E (Nat.le_refl _))
          have hn42 : ¬ χ2.A w.heap.size := fun h => (hA2 _ h).elim P9.n4 (hno _ (Nat.le_of_lt hEE))
          have hd7 := P9.dec
          have hd8 : Dec χ2 wc D ao7 l7 c7 cnt7 := ⟨hi2, fun h => (hA2 D h).elim hd7.nA (hno D (by omega)), hd7.at_, hd7.lc, hd7.cc, hd7.ll, hd7.cn, hd7.row.ext hx2 hx2.A (fun _ h => h)⟩
          have hs8 : NewD D χ w χ2 wc := ⟨P9.new.ext.trans hx2, P9.new.g, fun b hb => (hF2 b hb).elim (P9.new.Fn b) (fun e => .inr (by have := (P9.ownlt e).1; omega)), fun b hb => (hA2 b hb).elim (P9.new.An b) (fun e => .inr (by have := (P9.ownlt e).1; omega))⟩
          have ht2 : TF χ2 ⟨vc1, vt1, vb1, ao5, l5, c5, ao6, ts.length, ts.length⟩ := ⟨P9.c0, P9.t0, hl5, hr5.ext hx2 hx2.F P9.dec.inv.sub, ⟨Nat.le_refl _, by show ts.length ≤ 1099511627776; omega, by show ts.length ≤ 9223372036854775807; omega⟩, q3⟩
          have hTt := hTr ⟨vc1, vt1, vb1, ao5, l5, c5, ao6, ts.length, ts.length⟩ rfl rfl (ht2.typed hi2.sub)
          have hcnt7 := P9.cnt
          have k4 : wc.cell? ⟨E, 4, none⟩ = some (.slice ao6 ts.length c6) := by rw [cell?_blk hE9]; rfl
          clear hE8 hE4f hd6 hgw6 P9 hd7 hTr
          go_wp2_with fail
          refine hclip.mono ?_
          clear hclip k4
          rintro e w8 ⟨rfl, hw8⟩
          subst hw8
          have k4 : w8.cell? ⟨E, 4, none⟩ = some (.slice ao6 ts.length c6) := by rw [cell?_blk hE9]; rfl
          have k4f : w8.frozen? ⟨E, 4, none⟩ = false := by rw [frozen?_blk hE9]; simp
          have HD := Lib.hid (hd8.setOther hE9 hED hnE2 (.cells #[.int .u8 vc1, .int .u32 vt1, .bool vb1, .slice ao5 l5 c5, .slice ao6 ts.length ts.length] 61 (0, 0)))
          have HS := Lib.hid (hs8.setOther (lt_of_blk hE9) (by omega) (.cells #[.int .u8 vc1, .int .u32 vt1, .bool vb1, .slice ao5 l5 c5, .slice ao6 ts.length ts.length] 61 (0, 0)))
          have HT := Lib.hid (hTt.same (Ext.refl 0 χ2) (w' := setBlk w8 E (.cells #[.int .u8 vc1, .int .u32 vt1, .bool vb1, .slice ao5 l5 c5, .slice ao6 ts.length ts.length] 61 (0, 0))) (fun b hb => by rw [setBlk_get (lt_of_blk hE9), if_neg (fun e : b = E => hnE2 (e ▸ hb))]))
          have hset : w8.setCell ⟨E, 4, none⟩ (.slice ao6 ts.length ts.length) = setBlk w8 E (.cells #[.int .u8 vc1, .int .u32 vt1, .bool vb1, .slice ao5 l5 c5, .slice ao6 ts.length ts.length] 61 (0, 0)) := by rw [setCell_blk hE9]; rfl
          have hE11 : (setBlk w8 E (.cells #[.int .u8 vc1, .int .u32 vt1, .bool vb1, .slice ao5 l5 c5, .slice ao6 ts.length ts.length] 61 (0, 0))).heap[E]? = some (.cells #[.int .u8 vc1, .int .u32 vt1, .bool vb1, .slice ao5 l5 c5, .slice ao6 ts.length ts.length] 61 (0, 0)) := by rw [setBlk_get (lt_of_blk hE9), if_pos rfl]
          have hE4i : (setBlk w8 E (.cells #[.int .u8 vc1, .int .u32 vt1, .bool vb1, .slice ao5 l5 c5, .slice ao6 ts.length ts.length] 61 (0, 0))).heap[w.heap.size]? = some (.cells #[.int .u8 0, .int .u32 0, .bool false, .slice none 0 0, .slice none 0 0] 61 (0, 0)) := by rw [setBlk_get (lt_of_blk hE9), if_neg (by omega)]; exact hE4g
          have HB := Lib.hid hE11
          have HC := Lib.hid hE4i
          clear hE11 hE4i hE4g hTt hs8 hd8
          go_upto_region 21 with fail
          clear hset k4 k4f hE9
          have hd9 := HD.out
          have hs9 := HS.out
          have hT9 := HT.out
          have hE11 := HB.out
          have hE4i := HC.out
          clear HD HS HB HC HT
          generalize setBlk w8 E (.cells #[.int .u8 vc1, .int .u32 vt1, .bool vb1, .slice ao5 l5 c5, .slice ao6 ts.length ts.length] 61 (0, 0)) = w9 at *
          have k0 : w9.cell? ⟨E, 0, none⟩ = some (.int .u8 vc1) := by rw [cell?_blk hE11]; rfl
          have k1 : w9.cell? ⟨E, 1, none⟩ = some (.int .u32 vt1) := by rw [cell?_blk hE11]; rfl
          have k2 : w9.cell? ⟨E, 2, none⟩ = some (.bool vb1) := by rw [cell?_blk hE11]; rfl
          have k3 : w9.cell? ⟨E, 3, none⟩ = some (.slice ao5 l5 c5) := by rw [cell?_blk hE11]; rfl
          have k4 : w9.cell? ⟨E, 4, none⟩ = some (.slice ao6 ts.length ts.length) := by rw [cell?_blk hE11]; rfl
          have m0 : w9.cell? ⟨w.heap.size, 0, none⟩ = some (.int .u8 0) := by rw [cell?_blk hE4i]; rfl
          have m1 : w9.cell? ⟨w.heap.size, 1, none⟩ = some (.int .u32 0) := by rw [cell?_blk hE4i]; rfl
          have m2 : w9.cell? ⟨w.heap.size, 2, none⟩ = some (.bool false) := by rw [cell?_blk hE4i]; rfl
          have m3 : w9.cell? ⟨w.heap.size, 3, none⟩ = some (.slice none 0 0) := by rw [cell?_blk hE4i]; rfl
          have m4 : w9.cell? ⟨w.heap.size, 4, none⟩ = some (.slice none 0 0) := by rw [cell?_blk hE4i]; rfl
          have f4 : ∀ i, w9.frozen? ⟨w.heap.size, i, none⟩ = false := fun i => by rw [frozen?_blk hE4i]; simp
          have f0 := f4 0
          have f1 := f4 1
          have f2 := f4 2
          have f3 := f4 3
          have f5 := f4 4
          clear f4 hE11
          go_wp2
          rw [set5 hE4i]
          have hlt4 := lt_of_blk hE4i
          have hd10 := hd9.setOther hE4i hDn hn42 (.cells (treeV vc1 vt1 vb1 ao5 l5 c5 ao6 ts.length ts.length) 61 (0, 0))
          have hs10 := hs9.setOther hlt4 (Nat.le_refl _) (.cells (treeV vc1 vt1 vb1 ao5 l5 c5 ao6 ts.length ts.length) 61 (0, 0))
          have hT10 := hT9.same (Ext.refl 0 χ2) (w' := setBlk w9 w.heap.size (.cells (treeV vc1 vt1 vb1 ao5 l5 c5 ao6 ts.length ts.length) 61 (0, 0))) (fun b hb => by rw [setBlk_get hlt4, if_neg (fun e : b = w.heap.size => hn42 (e ▸ hb))])
          have hE4j : (setBlk w9 w.heap.size (.cells (treeV vc1 vt1 vb1 ao5 l5 c5 ao6 ts.length ts.length) 61 (0, 0))).heap[w.heap.size]? = some (.cells (treeV vc1 vt1 vb1 ao5 l5 c5 ao6 ts.length ts.length) 61 (0, 0)) := by rw [setBlk_get hlt4, if_pos rfl]
          change bodyPost _ _ _ _ _ (setBlk w9 w.heap.size (.cells (treeV vc1 vt1 vb1 ao5 l5 c5 ao6 ts.length ts.length) 61 (0, 0)))
          generalize setBlk w9 w.heap.size (.cells (treeV vc1 vt1 vb1 ao5 l5 c5 ao6 ts.length ts.length) 61 (0, 0)) = wf at *
          have r0 : wf.cell? ⟨w.heap.size, 0, none⟩ = some (.int .u8 vc1) := by rw [cell?_blk hE4j]; rfl
          have r1 : wf.cell? ⟨w.heap.size, 1, none⟩ = some (.int .u32 vt1) := by rw [cell?_blk hE4j]; rfl
          have r2 : wf.cell? ⟨w.heap.size, 2, none⟩ = some (.bool vb1) := by rw [cell?_blk hE4j]; rfl
          have r3 : wf.cell? ⟨w.heap.size, 3, none⟩ = some (.slice ao5 l5 c5) := by rw [cell?_blk hE4j]; rfl
          have r4 : wf.cell? ⟨w.heap.size, 4, none⟩ = some (.slice ao6 ts.length ts.length) := by rw [cell?_blk hE4j]; rfl
          clear k0 k1 k2 k3 k4 m0 m1 m2 m3 m4 f0 f1 f2 f3 f5 hE4i hE4j
          exact bodyPost_ret (v := .agg #[.int .u8 vc1, .int .u32 vt1, .bool vb1, .slice ao5 l5 c5, .slice ao6 ts.length ts.length]) (by simp [results, Tryz.results128, go_sem, r0, r1, r2, r3, r4]) rfl
            (.inl ⟨χ2, ⟨vc1, vt1, vb1, ao5, l5, c5, ao6, ts.length, ts.length⟩, 1 + n5, l5 + s5, ao7, l7, c7, cnt7, rfl, ht2, hT10, hd10, by omega, by omega, hs10⟩)

end Go.Sx
