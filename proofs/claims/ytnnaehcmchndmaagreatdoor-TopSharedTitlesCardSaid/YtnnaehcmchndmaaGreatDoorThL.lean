/- Part ThL of a proof: helper lemmas; no conditions. -/
import Derived.Test.YtnnaehcmchndmaaGreatDoorThK
import Derived.Test.YtnnaehcmchndmaaGreatDoorThF
import Derived.Test.YtnnaehcmchndmaaGreatDoorTiA

set_option linter.unusedSimpArgs false
set_option linter.unusedVariables false

namespace Go.Sx
open Go Go.Proofs Go.RowKit

theorem callPost_oneM {P : Program} {w w' : World} {χ0 χ' : Chi} (hF0 : ∀ b, ¬ χ0.F b) (G : MGrows P χ0 w χ' w') {d : D} {vs : Array Value} {E : TypeId} (hty : TypedBy P χ' χ'.F vs (kkOf d.cts)) {A B rb g FE : Nat} (hrb : w'.heap[rb]? = some (.cells vs E (0, 0))) (hnA : ¬ χ'.A rb) (hge : w.heap.size ≤ rb) (hS : ∀ b o, ClosS P A B ⟨g, b, o, d⟩) :
    CallPost P A B w (.returned (.slice (some ⟨w'.heap.size, 0, none⟩) 1 1)) (w'.alloc (.cells #[.func (.func g) #[] #[.pointer (some ⟨rb, 0, none⟩)]] FE)) := by
  obtain ⟨hi2, hx2⟩ := Inv.adoptF G.inv hnA (kkOf d.cts) hrb hty
  have hg : w.grownBy w' none := grown_of_mem G.mem hF0
  have hrlt := lt_of_blk hrb
  refine ⟨_, [⟨g, rb, 0, d⟩], (χ'.alloc rb true (kkOf d.cts)).only.at0, rfl, grown_alloc' hg _, .inr ⟨w'.heap.size, 1, rfl, ?_, fun i c hi => ?_⟩, by show 1 ≤ 2; omega, ?_, ?_, ?_, Chi.at0_sep _, fun lb l c h => ?_⟩
  · show w'.heap.size < (w'.heap.push _).size
    simp
  · cases i with
    | zero =>
      simp only [List.getElem?_cons_zero, Option.some.injEq] at hi
      subst hi
      rw [cell?_blk (by rw [alloc_get, if_pos rfl])]
      rfl
    | succ i => simp at hi
  · intro i
    cases i with
    | zero =>
      refine hi2.only.same fun k hk => ?_
      have hlt : k < w'.heap.size := hi2.lt (hi2.sub k hk)
      rw [alloc_get, if_neg (by omega)]
    | succ i => exact InvF.none _ _
  · intro i b' hb'
    cases i with
    | zero =>
      rcases (show χ'.F b' ∨ (true = true ∧ b' = rb) from hb') with h | ⟨_, h⟩
      · rcases G.mem.Fn _ h with h1 | h1
        · exact (hF0 _ h1).elim
        · exact h1
      · omega
    | succ i => exact hb'.elim
  · intro i c hc
    cases i with
    | zero =>
      simp only [List.getElem?_cons_zero, Option.some.injEq] at hc
      subst hc
      refine ⟨⟨.inr ⟨rfl, rfl⟩, fun i hi => ?_⟩, hS rb 0⟩
      show (if rb = rb then (kkOf d.cts) (0 + i) else _) = d.cts[i]?
      rw [if_pos rfl, Nat.zero_add]
      rfl
    | succ i => simp at hc
  · cases h
    refine ⟨hg.size, fun i h => ?_⟩
    cases i with
    | zero => have := hi2.lt (hi2.sub _ h); omega
    | succ i => exact h

abbrev ruleD : D := .row 324 (.seq .str (.seq .bool (.seq .str (.seq (.int .u16) (.int .u8)))))
theorem ruleD_cts : ruleD.cts = [.slice (.base 324)] := by first | rfl | kernel_rfl

set_option maxRecDepth 100000 in
set_option maxHeartbeats 3200000 in
theorem hcall110 {r : D} (hS : ∀ b o, ClosS Tryz.prog 3 9 ⟨112, b, o, ruleD⟩) : CallOK Tryz.prog 3 9 2000 110 (.seq .str r) glTi := by
  intro w χ b cs E hinv hA hc ht hgw hga hsm
  have h0 : ∃ s : ByteArray, cs[0]? = some (.string s) ∧ s.size ≤ 2000 := by
    have e := ht 0
    simp only [D.cts, kkOf] at e
    cases hv : cs[0]? with
    | none => rw [hv] at e; exact e.elim
    | some v =>
      rw [hv] at e
      obtain ⟨s, rfl, h⟩ := (show ∃ s : ByteArray, v = .string s ∧ s.size ≤ 2000 from e)
      exact ⟨s, rfl, h⟩
  obtain ⟨s, h0, hs⟩ := h0
  have hna : ∀ p ∈ glTi, ¬ χ.A p.1 := fun p hp => (hga p hp).1
  have hd : glDistinct glTi = true := rfl
  have hgl := GlOK.withGl (χ := χ.shut) hd
  have hig := Inv.withGl (χ := χ.shut) hinv.1.shut hgw hd hna
  have err : ∀ g, (g, [CT.any]) ∈ glTi → ∃ u v, w.cell? ⟨g, 0, none⟩ = some (.iface u v) := fun g hg => by
    obtain ⟨cs', E', fz, h1, _, h3⟩ := hgw _ hg
    obtain ⟨u, v, rfl⟩ := h3 rfl
    exact ⟨u, v, by rw [cell?_blk h1]; rfl⟩
  have hmx : ∃ m, w.cell? ⟨3, 0, none⟩ = some (.int .i64 m) := by
    obtain ⟨cs', E', fz, h1, h2, _⟩ := hgw (3, [.int .i64 (-9223372036854775808) 9223372036854775807]) (.tail _ (.tail _ (.tail _ (.head _))))
    have e := h2 χ χ.A 0
    simp only [kkOf] at e
    cases hv : cs'[0]? with
    | none => rw [hv] at e; exact e.elim
    | some v =>
      rw [hv] at e
      obtain ⟨m, rfl, _⟩ := (show ∃ m, v = .int .i64 m ∧ _ from e)
      exact ⟨m, by rw [cell?_blk h1]; exact hv⟩
  have hrd := read_any (s := s) ⟨hig, glTi_tab hgl, err 4 (.head _), err 5 (.tail _ (.head _)), hmx⟩ (fun _ h => h) (by omega)
  have k0 : w.cell? ⟨b, 0, none⟩ = some (.string s) := by rw [cell?_blk hc]; exact h0
  clear hsm hgw hga err h0 ht hmx
  have hmf : ∀ (fn : Fn) (first cap : Array Value) (w : World), (Instr.makeFunc fn first cap).run Tryz.prog w = .ok (.func fn first cap) w := fun _ _ _ _ => rfl
  go_enter Tryz.func110, Tryz.ntmps110
  go_wp2_with fail
  refine hrd.mono ?_
  clear hrd k0
  rintro e w2 ⟨χ2, ao, l, c, rr, rfl, G2, hlc, hcc, hrow, hl⟩
  have GA := G2.trans (MGrows.plain G2.inv (grown_alloc w2 (.cells #[.slice ao l c] 139)))
  have hrb : (w2.alloc (.cells #[.slice ao l c] 139)).heap[w2.heap.size]? = some (.cells #[.slice ao l c] 139 (0, 0)) := by rw [alloc_get, if_pos rfl]
  have hty : TypedBy Tryz.prog χ2 χ2.F #[.slice ao l c] (kkOf ruleD.cts) := by
    rw [ruleD_cts]
    intro i
    rcases i with _ | i
    · exact ⟨ao, l, c, rfl, hlc, by unfold LB; omega, hcc, by rw [tauRule]; exact hrow⟩
    · show match (none : Option Value), (none : Option CT) with | some v, some ct => CellOK Tryz.prog χ2 χ2.F ct v | .none, .none => True | _, _ => False
      trivial
  have hpost := callPost_oneM (FE := 55) (fun _ h => h) GA hty hrb (fun h => by have := G2.inv.lt h; omega) G2.mem.size hS
  rw [alloc_size] at hpost
  go_wp2_with fail
  exact bodyPost_ret (v := .slice (some ⟨w2.heap.size + 1, 0, none⟩) 1 1) (by simp [results, Tryz.results110, go_sem]) rfl hpost

end Go.Sx


