/- Part LT of a proof: helper lemmas; no conditions. -/
import Derived.Test.YtnnaehcmchndmaaGreatDoorLB
import Derived.Lib.LaidTab
import Derived.Lib.ItoaNum
import Derived.KernelRfl

set_option linter.unusedSimpArgs false
set_option linter.unusedVariables false

namespace Go.Sx
open Go Go.Lib Go.Proofs

def tabZ : List Int := [1, 10, 100, 1000, 10000, 100000, 1000000, 10000000, 100000000, 1000000000, 10000000000, 100000000000, 1000000000000, 10000000000000, 100000000000000, 1000000000000000, 10000000000000000, 100000000000000000, 1000000000000000000, 10000000000000000000]
def tabC : List CT := tabZ.map fun z => .int .u64 z z

theorem tabZ_eq : tabZ = Lib.pow10Tab := by kernel_rfl

theorem globW_tab {P : Program} {W : World} {name : String} {d : DataW Unit} {g t e N : Nat} (h : VarReads P W name d) (hd : d = tabData .u64 Lib.pow10Tab) (hg : P.globalNamed name = some g) (ht : (P.globals[g]?).map (·.type) = some t)
    (hu : P.underlying t = some (.array N e)) (he : P.underlying e = some (.int .u64)) (ce : P.cellsOf e = 1) (hct : P.cellsOf t = N) :
    ∃ cs E fz, W.heap[g]? = some (.cells cs E fz) ∧ (∀ (χ : Chi) (S : Nat → Prop), TypedBy P χ S cs (kkOf tabC)) ∧ (tabC = [.any] → ∃ t v, cs = #[.iface t v]) := by
  obtain ⟨g', t', cs, fuel, p, h1, h2, h3, h4⟩ := h
  obtain rfl := Option.some.inj (hg.symm.trans h1)
  obtain rfl := Option.some.inj (ht.symm.trans h2)
  rw [hd] at h4
  have hcs := cells_of_tab hu he ce hct h4
  have hw : ∃ E fz, W.heap[g]? = some (.cells cs E fz) := by
    unfold World.var? at h3
    rw [hg] at h3
    simp only [Option.bind_some] at h3
    split at h3
    · rename_i cs' E fz hc
      cases h3
      exact ⟨E, fz, hc⟩
    · cases h3
  obtain ⟨E, fz, hw⟩ := hw
  refine ⟨cs, E, fz, hw, fun χ S i => ?_, fun e => by have := congrArg List.length e; simp [tabC, tabZ] at this⟩
  have hi : cs[i]? = (Lib.pow10Tab.map fun z => Value.int .u64 z)[i]? := by rw [← hcs]; simp
  rw [hi, ← tabZ_eq]
  simp only [kkOf, tabC, List.getElem?_map]
  cases hz : tabZ[i]? with
  | none => trivial
  | some z => exact ⟨z, rfl, Int.le_refl _, Int.le_refl _⟩

theorem trod_iface {H : Type} {enc : TypeId × Value → H} {P : Program} {w : World} {base : Nat} {spare : Nat → Bool} {held : Bool} {fuel : Nat} {t : TypeId} {cs : List Value} {d : DataW H} {ps : List MemPlace} {ms : Array (String × TypeId)} {nm : String} {y : DataW H} (ht : P.underlying t = some (.interface ms)) (h : DataW.trod enc P w base spare held fuel t cs = some (d, ps)) (hd : d = .iface nm y) : ∃ u v, cs = [.iface u v] := by
  subst hd
  cases fuel with
  | zero => simp [DataW.trod] at h
  | succ n =>
    unfold DataW.trod at h
    rw [ht] at h
    split at h <;> simp_all

def ifaceB {H : Type} : DataW H → Bool
  | .iface _ _ => true
  | _ => false

theorem ifaceB_ok {H : Type} : ∀ {d : DataW H}, ifaceB d = true → ∃ nm y, d = .iface nm y := by
  intro d h
  cases d with
  | iface nm y => exact ⟨nm, y, rfl⟩
  | _ => cases h

theorem globW_err {P : Program} {W : World} {name : String} {d : DataW Unit} {g t : Nat} {ms : Array (String × TypeId)} (h : VarReads P W name d) (hd : ifaceB d = true) (hg : P.globalNamed name = some g) (ht : (P.globals[g]?).map (·.type) = some t)
    (hu : P.underlying t = some (.interface ms)) : ∃ cs E fz, W.heap[g]? = some (.cells cs E fz) ∧ (∀ (χ : Chi) (S : Nat → Prop), TypedBy P χ S cs (kkOf [.any])) ∧ ([CT.any] = [.any] → ∃ t v, cs = #[.iface t v]) := by
  obtain ⟨g', t', cs, fuel, p, h1, h2, h3, h4⟩ := h
  obtain rfl := Option.some.inj (hg.symm.trans h1)
  obtain rfl := Option.some.inj (ht.symm.trans h2)
  obtain ⟨nm, y, hd⟩ := ifaceB_ok hd
  obtain ⟨u, v, e⟩ := trod_iface hu h4 hd
  have hcs : cs = #[.iface u v] := Array.ext' e
  have hw : ∃ E fz, W.heap[g]? = some (.cells cs E fz) := by
    unfold World.var? at h3
    rw [hg] at h3
    simp only [Option.bind_some] at h3
    split at h3
    · rename_i cs' E fz hc
      cases h3
      exact ⟨E, fz, hc⟩
    · cases h3
  obtain ⟨E, fz, hw⟩ := hw
  refine ⟨cs, E, fz, hw, fun χ S i => ?_, fun _ => ⟨u, v, hcs⟩⟩
  subst hcs
  rcases i with _ | i
  · exact (rfl : (Value.iface u v).oneCell' = true)
  · show match (#[Value.iface u v] : Array Value)[i + 1]?, ([CT.any] : List CT)[i + 1]? with | some v, some ct => CellOK P χ S ct v | .none, .none => True | _, _ => False
    simp

theorem tab_is {P : Program} {χ : Chi} {w : World} {name : String} {g : Nat} (hinv : Inv P χ w) (hgl : GlOK χ [(g, tabC)]) (hg : P.globalNamed name = some g) : Lib.TabIs P w name .u64 Lib.pow10Tab := by
  obtain ⟨hA, hκ⟩ := hgl (g, tabC) (by simp)
  obtain ⟨cs, E, fz, hb, ht⟩ := hinv.blockA g hA
  unfold TabIs World.var?
  rw [hg]
  simp only [Option.bind_some, hb]
  rw [← tabZ_eq]
  congr 1
  apply Array.ext_getElem?
  intro i
  have := ht i
  rw [hκ i] at this
  simp only [tabC, List.getElem?_map] at this
  simp only [List.getElem?_toArray, List.getElem?_map]
  cases hz : tabZ[i]? with
  | none =>
    rw [hz] at this
    simp only [Option.map_none] at this ⊢
    split at this
    · rename_i h1 h2; cases h2
    · rename_i h1 h2; exact h1
    · exact this.elim
  | some z =>
    rw [hz] at this
    simp only [Option.map_some] at this ⊢
    split at this
    · rename_i v ct h1 h2
      cases h2
      obtain ⟨n, rfl, h3, h4⟩ := this
      rw [h1]
      congr 2
      omega
    · rename_i h1 h2; cases h2
    · exact this.elim

end Go.Sx
