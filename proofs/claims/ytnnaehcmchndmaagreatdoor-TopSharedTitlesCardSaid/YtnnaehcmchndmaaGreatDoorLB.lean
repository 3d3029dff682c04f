/- Part LB of a proof: helper lemmas; no conditions. -/
import Derived.Test.YtnnaehcmchndmaaGreatDoorL
import Derived.Test.YtnnaehcmchndmaaGreatDoorJ
import Derived.Lib.LaidU8
import Derived.OpenShut

set_option linter.unusedSimpArgs false
set_option linter.unusedVariables false

namespace Go.Sx
open Go

structure CpRel (P : Program) (m : Nat) (w0 : World) (χ0 χ : Chi) (nb t l cap b o : Nat) (e : D) (zs : Array Value) (k i : Nat) (wr : World) (cs : Array Value) : Prop where
  ik : i + k = l
  g : Grows P χ0 w0 χ wr
  ge : w0.heap.size ≤ nb
  nA : ¬ χ.A nb
  blk : wr.heap[nb]? = some (.cells cs t (0, 0))
  size : cs.size = cap * e.size
  done : ∀ j, j < i → PartOK P m w0 χ wr e (fun q => w0.cell? ⟨b, o + j * e.size + q, none⟩) (fun q => cs[j * e.size + q]?) 0
  todo : ∀ q, i * e.size ≤ q → q < l * e.size → cs[q]? = w0.cell? ⟨b, o + q, none⟩
  rest : ∀ q, l * e.size ≤ q → q < cap * e.size → cs[q]? = zs[q % e.size]?

section
variable {P : Program} {m : Nat} {w0 : World} {χ0 χ : Chi} {nb t l cap b o : Nat} {e : D} {zs : Array Value} {k i : Nat} {wr : World} {cs : Array Value} {Z : Nat → Prop}

theorem CpRel.round {agg : Bool} {h : Nat} (hm : m ≤ LB) (hok : e.ok P) (hlc : l ≤ cap) (hagg1 : agg = false → e.size = 1) (hown : OwnOK P m h agg e) (hZ : ∀ b, Z b → b < w0.heap.size) (hrd : ∀ j, j < l → Rd Z w0 e b (o + j * e.size))
    (hsm : ∀ j, j < l → SmV m w0 e (fun q => w0.cell? ⟨b, q, none⟩) (o + j * e.size)) (hr : CpRel P m w0 χ0 χ nb t l cap b o e zs (k + 1) i wr cs) :
    i * e.size + e.size ≤ cs.size ∧ Calls P h #[pk agg (cs.extract (i * e.size) (i * e.size + e.size))] wr fun en w' => ∃ cs' χ', en = .returned (pk agg cs') ∧ (pk agg cs').cells = cs' ∧ cs'.size = e.size ∧ (∀ v ∈ cs'.toList, v.oneCell' = true) ∧ w'.heap[nb]? = some (.cells cs t (0, 0)) ∧
      CpRel P m w0 χ0 χ' nb t l cap b o e zs k (i + 1) (setBlk w' nb (.cells (spl cs (i * e.size) cs'.toList) t (0, 0))) (spl cs (i * e.size) cs'.toList) := by
  have hil : i < l := by have := hr.ik; omega
  have hlt : (i + 1) * e.size ≤ cap * e.size := Nat.mul_le_mul_right _ (by omega)
  rw [Nat.succ_mul] at hlt
  have hl2 : (i + 1) * e.size ≤ l * e.size := Nat.mul_le_mul_right _ (by omega)
  rw [Nat.succ_mul] at hl2
  have hle : i * e.size + e.size ≤ cs.size := by rw [hr.size]; exact hlt
  refine ⟨hle, ?_⟩
  have hZs : ∀ b, Z b → wr.heap[b]? = w0.heap[b]? := fun b hb => hr.g.grown.block b (hZ b hb) (by simp)
  have hex : ∀ q, q < e.size → (cs.extract (i * e.size) (i * e.size + e.size))[0 + q]? = w0.cell? ⟨b, o + i * e.size + q, none⟩ := fun q hq => by
    rw [Nat.zero_add, Array.getElem?_extract, if_pos (by omega), hr.todo _ (by omega) (by omega), Nat.add_assoc]
  have hexs : (cs.extract (i * e.size) (i * e.size + e.size)).size = e.size := by simp; omega
  have hrdv : RdV Z wr e (fun q => (cs.extract (i * e.size) (i * e.size + e.size))[q]?) 0 :=
    ((hrd i hil).v.congr e (p := 0) (g := fun q => (cs.extract (i * e.size) (i * e.size + e.size))[q]?) fun q hq => (hex q hq).symm).same hZs e
  have hsmv : SmV m wr e (fun q => (cs.extract (i * e.size) (i * e.size + e.size))[q]?) 0 :=
    (SmV.congr e (g := fun q => (cs.extract (i * e.size) (i * e.size + e.size))[q]?) (p := 0) (fun q hq => (hex q hq).symm) (hsm i hil)).same hZs e
      ((hrd i hil).v.congr e (p := 0) (g := fun q => (cs.extract (i * e.size) (i * e.size + e.size))[q]?) fun q hq => (hex q hq).symm)
  refine (hown wr χ Z _ hr.g.inv (fun b hb => Nat.lt_of_lt_of_le (hZ b hb) hr.g.grown.size) hexs hrdv hsmv).mono ?_
  rintro en w' ⟨cs', χ', rfl, hcs', hgr, hpart⟩
  have hnw : nb < wr.heap.size := lt_of_blk hr.blk
  have hb' : w'.heap[nb]? = some (.cells cs t (0, 0)) := (hgr.grown.block nb hnw (by simp)).trans hr.blk
  have hlt' := lt_of_blk hb'
  have nA' : ¬ χ'.A nb := fun h => by rcases hgr.new nb h with h | h; exact hr.nA h; omega
  have hone' : ∀ v ∈ cs'.toList, v.oneCell' = true := by
    intro v hv
    obtain ⟨j, hj, rfl⟩ := List.getElem_of_mem hv
    simp only [Array.length_toList] at hj
    obtain ⟨v, ct, k1, _, k3⟩ := hpart.ty j (by omega)
    simp only [Nat.zero_add] at k1
    rw [Array.getElem?_eq_getElem hj] at k1
    cases k1
    simpa using k3.one
  have hs2 : ∀ b, χ'.A b → (setBlk w' nb (.cells (spl cs (i * e.size) cs'.toList) t (0, 0))).heap[b]? = w'.heap[b]? := fun b hb => by
    rw [setBlk_get hlt', if_neg (fun (e : b = nb) => nA' (e ▸ hb))]
  have hspl : ∀ q, (spl cs (i * e.size) cs'.toList)[q]? = if i * e.size ≤ q ∧ q < i * e.size + e.size then cs'[q - i * e.size]? else cs[q]? := fun q => by
    rw [spl_get _ _ _ _ (by simp; omega)]
    simp only [Array.length_toList, hcs', Array.getElem?_toList]
  have hg2 := hr.g.trans hgr
  refine ⟨cs', χ', rfl, pk_cells (fun h => by rw [hcs']; exact hagg1 h) hone', hcs', hone', hb', ?_⟩
  refine ⟨by have := hr.ik; omega, ⟨hg2.ext, hg2.new, hg2.inv.same hs2, ⟨hg2.grown.os, hg2.grown.tape, hg2.grown.output, by rw [setBlk_size]; exact hg2.grown.size, fun k hk hn => ?_⟩⟩, hr.ge, nA', ?_, ?_, ?_, ?_, ?_⟩
  · rw [setBlk_get hlt', if_neg (by have := hr.ge; omega)]
    exact hg2.grown.block k hk hn
  · rw [setBlk_get hlt', if_pos rfl]
  · rw [spl_size]; exact hr.size
  · intro j hj
    rcases Nat.lt_or_ge j i with hji | hji
    · have hlj : (j + 1) * e.size ≤ i * e.size := Nat.mul_le_mul_right _ (by omega)
      rw [Nat.succ_mul] at hlj
      refine (hr.done j hji).step (χ' := χ') (w' := setBlk w' nb (.cells (spl cs (i * e.size) cs'.toList) t (0, 0))) hr.g.inv hm hok hgr.ext (fun b hb => ?_) fun q hq => ?_
      · rw [hs2 b (hgr.ext.A b hb)]
        exact hgr.grown.block b (hr.g.inv.1.lt hb) (by simp)
      · simp only [Nat.zero_add]
        rw [hspl, if_neg (by omega)]
    · have : j = i := by omega
      subst this
      have hcg : ∀ q, q < e.size → (fun q => (spl cs (j * e.size) cs'.toList)[j * e.size + q]?) (0 + q) = (fun q => cs'[q]?) (0 + q) := fun q hq => by
        simp only [Nat.zero_add, hspl]
        rw [if_pos (by omega), show j * e.size + q - j * e.size = q by omega]
      refine ⟨fun q hq => ?_, fun st => ?_⟩
      · obtain ⟨v, ct, k1, k2, k3⟩ := hpart.ty q hq
        exact ⟨v, ct, (hcg q hq).trans k1, k2, k3⟩
      · rw [seenV_congr _ e (p := 0) (g := fun q => cs'[q]?) st hcg, seenV_same hs2 e (PartOK.rdv hgr.inv hm e hok hpart.ty) st, hpart.eq st]
        rw [seenV_congr wr e (p := 0) (g := fun q => w0.cell? ⟨b, o + j * e.size + q, none⟩) st (fun q hq => by simpa using hex q hq)]
        refine seenV_same hZs e ?_ st
        exact (hrd j hil).v.congr e (p := 0) (g := fun q => w0.cell? ⟨b, o + j * e.size + q, none⟩) fun q hq => by simp
  · intro q hq1 hq2
    rw [Nat.succ_mul] at hq1
    rw [hspl, if_neg (by omega)]
    exact hr.todo q (by omega) hq2
  · intro q hq1 hq2
    rw [hspl, if_neg (by omega)]
    exact hr.rest q hq1 hq2

theorem CpRel.out {z : Value} {c : Nat} {ao : Option Addr} {csa : Array Value} (hm : m ≤ LB) (hok : (D.row t e).ok P) (hzs : zs = z.cells) (hzf : constFitL z.cells.toList e.cts = true) (hlm : l ≤ m) (hlc : l ≤ cap) (hcap : cap ≤ CB) (hao : ao = some ⟨b, o, none⟩) (hcs : csa[0]? = some (.slice ao l c))
    (hr : CpRel P m w0 χ0 χ nb t l cap b o e zs 0 i wr cs) :
    ∃ (cs' : Array Value) (χ' : Chi), (Ending.returned (.slice (some ⟨nb, 0, none⟩) l cap) : Ending) = .returned (cs'.getD 0 undef) ∧ cs'.size = 1 ∧ Grows P χ0 w0 χ' wr ∧ PartOK P m w0 χ' wr (.row t e) (fun i => csa[i]?) (fun i => cs'[i]?) 0 := by
  have hi : i = l := by have := hr.ik; omega
  subst hi
  obtain ⟨htau, h1, hoke⟩ := hok
  have hty : TypedBy P χ χ.F cs (perK e.cts cap) := perK_typed (by rw [D.cts_len]; exact hr.size) fun q v ct hv hc => by
    rw [D.cts_len] at hc
    rcases Nat.lt_or_ge q (i * e.size) with hlt | hge
    · have hq : q / e.size < i := by rw [Nat.div_lt_iff_lt_mul (by omega)]; exact hlt
      obtain ⟨v', ct', r1, r2, r3⟩ := (hr.done _ hq).ty (q % e.size) (Nat.mod_lt _ (by omega))
      simp only [Nat.zero_add, Nat.div_add_mod'] at r1
      rw [hv] at r1; rw [hc] at r2
      cases r1; cases r2
      exact CellOK.mono hr.g.inv.2 (CellOK.of_bd hm r3)
    · have hq : q < cap * e.size := by rw [← hr.size]; exact (Array.getElem?_eq_some_iff.1 hv).1
      rw [hr.rest q hge hq, hzs] at hv
      obtain ⟨u, hu, hfit⟩ := constFitL_get hzf hc
      rw [Array.getElem?_toList] at hu
      rw [hv] at hu
      cases hu
      exact constFit_ok hfit
  have hinv := hr.g.inv.1.addF hr.nA hr.blk hty
  have hext := Ext.addF (n := 0) hr.nA (perK e.cts cap)
  refine ⟨#[.slice (some ⟨nb, 0, none⟩) i cap], χ.addF nb (perK e.cts cap), rfl, rfl, ⟨hr.g.ext.trans hext, fun k hk => ?_, ⟨hinv, fun k hk => ?_⟩, hr.g.grown⟩, ⟨fun q hq => ?_, fun st => ?_⟩⟩
  · rcases hk with hk | rfl
    · exact hr.g.new k hk
    · exact .inr hr.ge
  · rcases hk with hk | rfl
    · exact .inl (hr.g.inv.2 k hk)
    · exact .inr rfl
  · simp only [D.size] at hq
    have : q = 0 := by omega
    subst this
    refine ⟨_, .slice (.base t), rfl, rfl, _, i, cap, rfl, hlc, hlm, hcap, ?_⟩
    rw [htau]
    refine ⟨rfl, .inr rfl, fun q hq => ?_⟩
    simp only [Chi.addF, if_true, Nat.zero_add, perK, hq]
  · simp only [seenV, hcs, List.getElem?_toArray, List.getElem?_cons_zero, hao, cellRow]
    refine rowLoop_congr fun j st _ hj => ?_
    have hd := (hr.done j (by omega)).eq st
    rw [seen_V, seen_V]
    refine Eq.trans ?_ (hd.trans ?_)
    · refine seenV_congr wr e st fun q hq => ?_
      rw [cell?_blk hr.blk, Nat.zero_add, Nat.zero_add]
    · refine seenV_congr w0 e st fun q hq => ?_
      rw [Nat.zero_add]

end

end Go.Sx

namespace Go.Sx
open Go Go.Lib Go.Proofs

theorem mem_lookup {n : String} : ∀ {l : List (String × DataW Unit)}, (l.lookup n).isSome = true → (n, (l.lookup n).getD .nil) ∈ l := by
  intro l
  induction l with
  | nil => intro h; cases h
  | cons a l ih =>
    obtain ⟨m, d⟩ := a
    intro h
    by_cases e : n = m
    · subst e; simp
    · have hb : (n == m) = false := by simpa using e
      simp only [List.lookup, hb] at h ⊢
      exact List.mem_cons_of_mem _ (ih h)

end Go.Sx
