/- Part HnC of a proof: helper lemmas; no conditions. -/
import Derived.Test.YtnnaehcmchndmaaGreatDoorHnA

set_option linter.unusedSimpArgs false
set_option linter.unusedVariables false

namespace Go.Sx
open Go

theorem BlockOK.mono {P : Program} {χ : Chi} {S S' : Nat → Prop} (hS : ∀ b, S b → S' b) {w : World} {b : Nat} (h : BlockOK P χ S w b) : BlockOK P χ S' w b := by
  obtain ⟨cs, E, fz, hc, ht⟩ := h
  exact ⟨cs, E, fz, hc, TypedBy.mono hS ht⟩

theorem RowOK.monoS {χ : Chi} {S S' : Nat → Prop} (hS : ∀ b, S b → S' b) {cts : List CT} {ao : Option Addr} {c : Nat} (h : RowOK χ S cts ao c) : RowOK χ S' cts ao c := by
  cases ao with
  | none => exact h
  | some ad => exact ⟨h.1, hS _ h.2.1, h.2.2⟩

def Chi.join (χ χ2 : Chi) : Chi := { χ2 with F := fun b => χ.F b ∨ χ2.F b }

theorem unshut {P : Program} {χ χ2 : Chi} {w w2 : World} {n : Nat} (hinv : Inv P χ w) (hext : Ext n χ.shut χ2) (hg : w.grownBy w2 none) (hi2 : Inv P χ2 w2) (hFn : ∀ b, χ2.F b → w.heap.size ≤ b) (hAn : ∀ b, χ2.A b → χ.A b ∨ w.heap.size ≤ b) :
    Ext n χ (χ.join χ2) ∧ MemExt χ w (χ.join χ2) w2 ∧ Inv P (χ.join χ2) w2 := by
  have hx : Ext n χ (χ.join χ2) := ⟨hext.ρ, fun _ h => .inl h, hext.A, hext.κ⟩
  refine ⟨hx, ⟨hg.os, hg.tape, hg.output, hg.size, fun k hk _ => hg.block k hk (by simp), fun b hb => ?_, hAn⟩, ?_⟩
  · rcases hb with h | h
    · exact .inl h
    · exact .inr (hFn b h)
  · refine ⟨fun b hb => ?_, fun b hb => ?_, fun b hb => ?_, fun b hb => ?_⟩
    · rcases hb with h | h
      · exact hext.A b (hinv.sub b h)
      · exact hi2.sub b h
    · exact hi2.blockA b hb
    · rcases hb with h | h
      · exact BlockOK.ext hx (fun _ h => .inl h) hinv.sub (hinv.sub b h) (hg.block b (hinv.lt (hinv.sub b h)) (by simp)) (hinv.blockF b h)
      · exact BlockOK.mono (fun _ h => .inr h) (hi2.blockF b h)
    · rcases hb with h | h
      · intro cs E fz hc
        rw [hg.block b (hinv.lt (hinv.sub b h)) (by simp)] at hc
        exact hinv.unfr b h cs E fz hc
      · exact hi2.unfr b h

theorem Inv.adoptF {P : Program} {χ : Chi} {w : World} (h : Inv P χ w) {g : Nat} (hg : ¬ χ.A g) (kk : Nat → Option CT) {cs : Array Value} {E : TypeId} (hblk : w.heap[g]? = some (.cells cs E (0, 0))) (ht : TypedBy P χ χ.F cs kk) :
    Inv P (χ.alloc g true kk) w ∧ Ext 0 χ (χ.alloc g true kk) := by
  have hx : Ext 0 χ (χ.alloc g true kk) := ⟨fun _ _ => rfl, fun _ hb => .inl hb, fun _ hb => .inl hb, fun b hb i => by
    exact if_neg (fun e : b = g => hg (e ▸ hb))⟩
  have htA : TypedBy P (χ.alloc g true kk) (χ.alloc g true kk).A cs kk := ht.ext hx (fun b hb => hx.A b (h.sub b hb)) h.sub
  have htF : TypedBy P (χ.alloc g true kk) (χ.alloc g true kk).F cs kk := ht.ext hx hx.F h.sub
  refine ⟨⟨?_, ?_, ?_, ?_⟩, hx⟩
  · intro b hb
    rcases hb with hb | hb
    · exact .inl (h.sub b hb)
    · exact .inr hb.2
  · intro b hb
    rcases hb with hb | hb
    · exact BlockOK.ext hx hx.A (fun _ hb => hb) hb rfl (h.blockA b hb)
    · subst hb
      refine ⟨cs, E, (0, 0), hblk, ?_⟩
      simp only [Chi.alloc, if_pos] at htA ⊢
      exact htA
  · intro b hb
    rcases hb with hb | hb
    · exact BlockOK.ext hx hx.F h.sub (h.sub b hb) rfl (h.blockF b hb)
    · obtain ⟨_, rfl⟩ := hb
      refine ⟨cs, E, (0, 0), hblk, ?_⟩
      simp only [Chi.alloc, if_pos] at htF ⊢
      exact htF
  · intro b hb
    rcases hb with hb | hb
    · exact h.unfr b hb
    · obtain ⟨_, rfl⟩ := hb
      intro cs' E' fz' hc i _ hi
      rw [hblk] at hc
      cases hc
      omega

end Go.Sx
