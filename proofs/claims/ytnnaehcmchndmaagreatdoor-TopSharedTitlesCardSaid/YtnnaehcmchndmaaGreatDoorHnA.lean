/- Part HnA of a proof: helper lemmas; no conditions. -/
import Derived.Test.YtnnaehcmchndmaaGreatDoorK
import Derived.Test.YtnnaehcmchndmaaGreatDoorL
import Derived.WalkKit
import Derived.WalkSpells
import Derived.StillTactics
import Derived.OwnWalk
import Derived.Laws.Pointers
import Derived.Deep.RegionLaw
import Derived.Deep.AppendLies
import Derived.Deep.LoopGhost
import Derived.KernelRfl
import Derived.Lib.Hide

set_option linter.unusedSimpArgs false
set_option linter.unusedVariables false

namespace Go.Sx
open Go

theorem cell_grown {w w' : World} {b o : Nat} {v : Value} (hc : w.cell? ⟨b, o, none⟩ = some v) (hb : b < w.heap.size) (hg : w.grownBy w' none) : w'.cell? ⟨b, o, none⟩ = some v :=
  (World.cell?_of_block (a := ⟨b, o, none⟩) (hg.block b hb (by simp))).trans hc

theorem grown_drew0 (w : World) : w.grownBy w.drew none := ⟨rfl, rfl, rfl, Nat.le_refl _, fun _ _ _ => rfl⟩

theorem store_fresh1 {P : Program} {w : World} {b E : Nat} {z v : Value} (hb : b = w.heap.size) (h1 : v.oneCell' = true) : (store ⟨b, 0, none⟩ v).run P (w.alloc (.cells #[z] E)) = .ok () (w.alloc (.cells #[v] E)) := by
  subst hb
  have hn := store_new (P := P) w E #[z] #[v] rfl (by simpa using h1)
  have he : (w.alloc (.cells #[z] E)).heap[w.heap.size]? = some (.cells #[z] E (0, 0)) := by rw [alloc_get, if_pos rfl]
  have hr := run_storeCells_blk P [v] w.heap.size 0 0 _ #[z] E (0, 0) he (by simp) (fun j _ h => by omega) (by simpa using h1)
  rw [show (#[v] : Array Value).toList = [v] from rfl, hr] at hn
  injection hn with _ hn
  rw [run_store P _ _ v _ h1, cell?_blk he, frozen?_blk he]
  simp only [List.getElem?_toArray, List.getElem?_cons_zero]
  rw [setCell_blk he, ← hn]
  rfl

theorem row_read {P : Program} {χ : Chi} {w : World} (hinv : Inv P χ w) {cts : List CT} {ao : Option Addr} {c l i : Nat} (h : RowOK χ χ.A cts ao c) (hlc : l ≤ c) (hi : i < l) (hc : 0 < cts.length) :
    ∃ b o, ao = some ⟨b, o, none⟩ ∧ b < w.heap.size ∧ ∀ q ct, cts[q]? = some ct → ∃ v, w.cell? ⟨b, o + i * cts.length + q, none⟩ = some v ∧ CellOK P χ χ.A ct v := by
  cases ao with
  | none => have : c = 0 := h; omega
  | some ad =>
    obtain ⟨b, o, sp⟩ := ad
    obtain ⟨h1, h2, h3⟩ := h
    simp only at h1 h2 h3
    subst h1
    refine ⟨b, o, rfl, hinv.lt h2, fun q ct hq => ?_⟩
    have hql : q < cts.length := by
      rcases Nat.lt_or_ge q cts.length with h | h
      · exact h
      · rw [List.getElem?_eq_none h] at hq; cases hq
    have hlt : i * cts.length + q < c * cts.length := by
      have : (i + 1) * cts.length ≤ c * cts.length := Nat.mul_le_mul_right _ (by omega)
      rw [Nat.succ_mul] at this; omega
    have hk := h3 _ hlt
    rw [Nat.mul_comm i, Nat.mul_add_mod, Nat.mod_eq_of_lt hql, hq] at hk
    obtain ⟨cs, E, fz, hb, hr⟩ := hinv.read (fr := false) h2
    obtain ⟨v, hv, hcell⟩ := hr _ _ hk
    refine ⟨v, ?_, hcell⟩
    rw [cell?_blk hb, Nat.mul_comm i, Nat.add_assoc]
    exact hv

def NumsAt (k : IntKind) (lo hi : Int) (w : World) (ao : Option Addr) (n : Nat) (u : Nat → Int) : Prop := ∀ i, i < n → ∃ b o, ao = some ⟨b, o, none⟩ ∧ b < w.heap.size ∧ w.cell? ⟨b, o + i, none⟩ = some (.int k (u i)) ∧ lo ≤ u i ∧ u i ≤ hi
theorem NumsAt.grown {k : IntKind} {lo hi : Int} {w w' : World} {ao : Option Addr} {n : Nat} {u : Nat → Int} (h : NumsAt k lo hi w ao n u) (hg : w.grownBy w' none) : NumsAt k lo hi w' ao n u := fun i hi => by
  obtain ⟨b, o, e, hb, hc, h1, h2⟩ := h i hi
  exact ⟨b, o, e, Nat.lt_of_lt_of_le hb hg.size, cell_grown hc hb hg, h1, h2⟩

theorem nums_read {P : Program} {χ : Chi} {w : World} (hinv : Inv P χ w) {k : IntKind} {lo hi : Int} {ao : Option Addr} {c l : Nat} (h : RowOK χ χ.A [.int k lo hi] ao c) (hlc : l ≤ c) : ∃ u, NumsAt k lo hi w ao l u := by
  have hx : ∀ i, ∃ u : Int, i < l → ∃ b o, ao = some ⟨b, o, none⟩ ∧ b < w.heap.size ∧ w.cell? ⟨b, o + i, none⟩ = some (.int k u) ∧ lo ≤ u ∧ u ≤ hi := fun i => by
    by_cases hi : i < l
    · obtain ⟨b, o, e, hb, hr⟩ := row_read hinv h hlc hi (by simp)
      obtain ⟨v, hv, u, rfl, h0, h1⟩ := hr 0 _ rfl
      exact ⟨u, fun _ => ⟨b, o, e, hb, by simpa using hv, h0, h1⟩⟩
    · exact ⟨0, fun h => absurd h hi⟩
  exact ⟨fun i => Classical.choose (hx i), fun i hi => Classical.choose_spec (hx i) hi⟩

theorem grown_of_mem {χ χ' : Chi} {w w' : World} (hm : MemExt χ w χ' w') (hF : ∀ b, ¬ χ.F b) : w.grownBy w' none := ⟨hm.os, hm.tape, hm.output, hm.size, fun k hk _ => hm.old k hk (hF k)⟩

theorem mem_of_grown {χ : Chi} {w w' : World} (hg : w.grownBy w' none) (ρ : Val) : MemExt χ w (χ.withρ ρ) w' :=
  ⟨hg.os, hg.tape, hg.output, hg.size, fun b hb _ => hg.block b hb (by simp), fun _ h => .inl h, fun _ h => .inl h⟩

theorem fnOK_plain {P : Program} {f : FuncId} {c : Contract}
    (h : ∀ (χ : Chi) (w : World) (args : Array Value), Inv P χ w → All2 (gAV P χ) c.params args.toList → ivOK χ.ρ 0 c.iv → holdsAll χ.ρ c.pre →
      Calls P f args w fun e w' => ∃ v zs, e = .returned v ∧ w.grownBy w' none ∧ gAV P (χ.withρ (rext χ.ρ c.nv zs)) c.res v ∧ ivOK (rext χ.ρ c.nv zs) c.nv c.riv ∧ holdsAll (rext χ.ρ c.nv zs) c.post) : FnOK P f c := by
  intro χ w args hinv ha hi hp _
  refine (h χ w args hinv ha hi hp).mono ?_
  rintro e w' ⟨v, zs, rfl, hg, h1, h2, h3⟩
  exact ⟨v, χ.withρ (rext χ.ρ c.nv zs), rfl, Ext.rext χ c.nv zs, mem_of_grown hg _, (hinv.same fun b hb => hg.block b (hinv.lt hb) (by simp)).withρ _, h1, h2, h3⟩

end Go.Sx
