/- Part HnC of a proof: helper lemmas; no conditions. -/
import Derived.Test.YtadhlkgjiccdpaaGreatDoorHnA

set_option linter.unusedSimpArgs false
set_option linter.unusedVariables false

namespace Go.Sx
open Go

theorem BlockOK.mono {P : Program} {χ : Chi} {S S' : Nat → Prop} (hS : ∀ b, S b → S' b) {w : World} {b : Nat} (h : BlockOK P χ S w b) : BlockOK P χ S' w b := by
  obtain ⟨cs, E, fz, hc, ht⟩ := h
  exact ⟨cs, E, fz, hc, TypedBy.mono hS ht⟩

theorem RowOK.monoS {χ : Chi} {S S' : Nat → Prop} (hS : ∀ b, S b → S' b) {cts : List CT} {ao : Option Addr} {c : Nat} (h : RowOK χ S cts ao c) : RowOK χ S' cts ao c := by
  cases ao with
  | none => exact h
  | some ad => exact ⟨h.1, hS _ h.2.1, h.2.2⟩

def Chi.join (χ χ2 : Chi) : Chi := { χ2 with F := fun b => χ.F b ∨ χ2.F b }

theorem unshut {P : Program} {χ χ2 : Chi} {w w2 : World} {n : Nat} (hinv : Inv P χ w) (hext : Ext n χ.shut χ2) (hg : w.grownBy w2 none) (hi2 : Inv P χ2 w2) (hFn : ∀ b, χ2.F b → w.heap.size ≤ b) (hAn : ∀ b, χ2.A b → χ.A b ∨ w.heap.size ≤ b) :
    Ext n χ (χ.join χ2) ∧ MemExt χ w (χ.join χ2) w2 ∧ Inv P (χ.join χ2) w2 := by
  have hx : Ext n χ (χ.join χ2) := ⟨hext.ρ, fun _ h => .inl h, hext.A, hext.κ⟩
  refine ⟨hx, ⟨hg.os, hg.tape, hg.output, hg.size, fun k hk _ => hg.block k hk (by simp), fun b hb => ?_, hAn⟩, ?_⟩
  · rcases hb with h | h
    · exact .inl h
    · exact .inr (hFn b h)
  · refine ⟨fun b hb => ?_, fun b hb => ?_, fun b hb => ?_, fun b hb => ?_⟩
    · rcases hb with h | h
      · exact hext.A b (hinv.sub b h)
      · exact hi2.sub b h
    · exact hi2.blockA b hb
    · rcases hb with h | h
      · exact BlockOK.ext hx (fun _ h => .inl h) hinv.sub (hinv.sub b h) (hg.block b (hinv.lt (hinv.sub b h)) (by simp)) (hinv.blockF b h)
      · exact BlockOK.mono (fun _ h => .inr h) (hi2.blockF b h)
    · rcases hb with h | h
      · intro cs E fz hc
        rw [hg.block b (hinv.lt (hinv.sub b h)) (by simp)] at hc
        exact hinv.unfr b h cs E fz hc
      · exact hi2.unfr b h

theorem inv_setCell {P : Program} {χ : Chi} {w : World} {g i : Nat} {ct : CT} {v : Value} (hinv : Inv P χ w) (hF : χ.F g) (hk : χ.κ g i = some ct) (hv : CellOK P χ χ.F ct v) :
    Inv P χ (w.setCell ⟨g, i, none⟩ v) ∧ w.grownBy (w.setCell ⟨g, i, none⟩ v) (some g) := by
  obtain ⟨cs, E, fz, hb, ht⟩ := hinv.blockF g hF
  have hlt := lt_of_blk hb
  rw [setCell_blk hb]
  refine ⟨hinv.setF hF hb (by simp) (fun j => ?_), ⟨rfl, rfl, rfl, by rw [setBlk_size]; exact Nat.le_refl _, fun k hk' hn => by rw [setBlk_get hlt, if_neg (fun e => hn (by rw [e]))]⟩⟩
  have hj := ht j
  by_cases e : j = i
  · subst e
    rw [hk] at hj ⊢
    cases hc : cs[j]? with
    | none => rw [hc] at hj; exact hj.elim
    | some y =>
      have hjl : j < cs.size := by
        rcases Nat.lt_or_ge j cs.size with h | h
        · exact h
        · rw [Array.getElem?_eq_none h] at hc; cases hc
      rw [Array.getElem?_setIfInBounds_self_of_lt hjl]
      exact hv
  · rw [Array.getElem?_setIfInBounds_ne (fun h => e h.symm)]
    exact hj

theorem frow_read {P : Program} {χ : Chi} {w : World} (hinv : Inv P χ w) {cts : List CT} {ao : Option Addr} {c l i : Nat} (h : RowOK χ χ.F cts ao c) (hlc : l ≤ c) (hi : i < l) (hc : 0 < cts.length) :
    ∃ b o, ao = some ⟨b, o, none⟩ ∧ χ.F b ∧ b < w.heap.size ∧ ∀ q ct, cts[q]? = some ct → χ.κ b (o + i * cts.length + q) = some ct ∧ w.frozen? ⟨b, o + i * cts.length + q, none⟩ = false ∧ ∃ v, w.cell? ⟨b, o + i * cts.length + q, none⟩ = some v ∧ CellOK P χ χ.F ct v := by
  cases ao with
  | none => have : c = 0 := h; omega
  | some ad =>
    obtain ⟨b, o, sp⟩ := ad
    obtain ⟨h1, h2, h3⟩ := h
    simp only at h1 h2 h3
    subst h1
    refine ⟨b, o, rfl, h2, hinv.lt (hinv.sub b h2), fun q ct hq => ?_⟩
    have hql : q < cts.length := by
      rcases Nat.lt_or_ge q cts.length with h | h
      · exact h
      · rw [List.getElem?_eq_none h] at hq; cases hq
    have hlt : i * cts.length + q < c * cts.length := by
      have : (i + 1) * cts.length ≤ c * cts.length := Nat.mul_le_mul_right _ (by omega)
      rw [Nat.succ_mul] at this; omega
    have hk := h3 _ hlt
    rw [Nat.mul_comm i, Nat.mul_add_mod, Nat.mod_eq_of_lt hql, hq] at hk
    obtain ⟨cs, E, fz, hb, hr⟩ := hinv.read (fr := true) h2
    obtain ⟨v, hv, hcell⟩ := hr _ _ hk
    rw [Nat.mul_comm i, Nat.add_assoc]
    refine ⟨hk, ?_, v, ?_, hcell⟩
    · have hlt2 : o + (cts.length * i + q) < cs.size := by
        rcases Nat.lt_or_ge (o + (cts.length * i + q)) cs.size with h | h
        · exact h
        · rw [Array.getElem?_eq_none h] at hv; cases hv
      have := hinv.unfr b h2 cs E fz hb _ hlt2
      rw [frozen?_blk hb]
      simpa using this
    · rw [cell?_blk hb]; exact hv

theorem Inv.adoptF {P : Program} {χ : Chi} {w : World} (h : Inv P χ w) {g : Nat} (hg : ¬ χ.A g) (kk : Nat → Option CT) {cs : Array Value} {E : TypeId} (hblk : w.heap[g]? = some (.cells cs E (0, 0))) (ht : TypedBy P χ χ.F cs kk) :
    Inv P (χ.alloc g true kk) w ∧ Ext 0 χ (χ.alloc g true kk) := by
  have hx : Ext 0 χ (χ.alloc g true kk) := ⟨fun _ _ => rfl, fun _ hb => .inl hb, fun _ hb => .inl hb, fun b hb i => by
    exact if_neg (fun e : b = g => hg (e ▸ hb))⟩
  have htA : TypedBy P (χ.alloc g true kk) (χ.alloc g true kk).A cs kk := ht.ext hx (fun b hb => hx.A b (h.sub b hb)) h.sub
  have htF : TypedBy P (χ.alloc g true kk) (χ.alloc g true kk).F cs kk := ht.ext hx hx.F h.sub
  refine ⟨⟨?_, ?_, ?_, ?_⟩, hx⟩
  · intro b hb
    rcases hb with hb | hb
    · exact .inl (h.sub b hb)
    · exact .inr hb.2
  · intro b hb
    rcases hb with hb | hb
    · exact BlockOK.ext hx hx.A (fun _ hb => hb) hb rfl (h.blockA b hb)
    · subst hb
      refine ⟨cs, E, (0, 0), hblk, ?_⟩
      simp only [Chi.alloc, if_pos] at htA ⊢
      exact htA
  · intro b hb
    rcases hb with hb | hb
    · exact BlockOK.ext hx hx.F h.sub (h.sub b hb) rfl (h.blockF b hb)
    · obtain ⟨_, rfl⟩ := hb
      refine ⟨cs, E, (0, 0), hblk, ?_⟩
      simp only [Chi.alloc, if_pos] at htF ⊢
      exact htF
  · intro b hb
    rcases hb with hb | hb
    · exact h.unfr b hb
    · obtain ⟨_, rfl⟩ := hb
      intro cs' E' fz' hc i _ hi
      rw [hblk] at hc
      cases hc
      omega

end Go.Sx
