/- Part TgO of a proof: helper lemmas; no conditions. -/
import Derived.Test.YtadhlkgjiccdpaaGreatDoorTgM
import Derived.Test.YtadhlkgjiccdpaaGreatDoorHnC
import Derived.Deep.AppendLies
import Derived.Deep.RegionLaw
import Derived.Test.YtadhlkgjiccdpaaGreatDoorTgE

set_option linter.unusedSimpArgs false
set_option linter.unusedVariables false

namespace Go.Sx
open Go Go.Proofs

structure TypedC (χ : Chi) (t : TN) : Prop where
  n : TypedN χ t
  r3 : RowOK χ χ.A oct t.a3 t.c3
  r4 : RowOK χ χ.A treeC t.a4 t.c4

def partsV (ts : List TN) : List Value := ts.flatMap fun t => t.v.toList

theorem infoTree : (Tryz.prog.info? 61).map (fun i => (i.zero, i.size, i.bytes)) = some (some (.agg #[.int .u8 0, .int .u32 0, .bool false, .slice none 0 0, .slice none 0 0]), 5, 64) := by kernel_rfl

theorem infoTree' : ∃ i, Tryz.prog.info? 61 = some i ∧ i.zero = some (.agg #[.int .u8 0, .int .u32 0, .bool false, .slice none 0 0, .slice none 0 0]) ∧ i.size = 5 ∧ i.bytes = 64 := by
  have h := infoTree
  cases hi : Tryz.prog.info? 61 with
  | none => rw [hi] at h; cases h
  | some i =>
    rw [hi] at h
    simp only [Option.map_some, Option.some.injEq, Prod.mk.injEq] at h
    exact ⟨i, rfl, h.1, h.2.1, h.2.2⟩

theorem undTrees : Tryz.prog.underlying 59 = some (.slice 61) := by kernel_rfl

def OneAt (w : World) (v : Value) : Prop := ∀ g cs E fz, v.ownBlock = some g → w.heap[g]? = some (.cells cs E fz) → ∀ u ∈ cs.toList, u.oneCell' = true

theorem one_v (t : TN) : ∀ u ∈ t.v.toList, u.oneCell' = true := by
  intro u hu
  simp only [TN.v, List.mem_cons, List.not_mem_nil, or_false] at hu
  rcases hu with rfl | rfl | rfl | rfl | rfl <;> rfl

theorem one_zero (n : Nat) : ∀ u ∈ (Builtin.zeroCells (Value.agg #[.int .u8 0, .int .u32 0, .bool false, .slice none 0 0, .slice none 0 0]).cells n).toList, u.oneCell' = true := by
  intro u hu
  simp only [Builtin.zeroCells, Array.toList_map, List.mem_map] at hu
  obtain ⟨i, _, rfl⟩ := hu
  have : i % (Value.agg #[.int .u8 0, .int .u32 0, .bool false, .slice none 0 0, .slice none 0 0]).cells.size < 5 := Nat.mod_lt _ (by decide)
  generalize i % (Value.agg #[.int .u8 0, .int .u32 0, .bool false, .slice none 0 0, .slice none 0 0]).cells.size = q at *
  rcases q with _ | _ | _ | _ | _ | q
  · rfl
  · rfl
  · rfl
  · rfl
  · rfl
  · omega

set_option maxRecDepth 100000 in
theorem own_append {w : World} {base n B : Nat} {v : Value} {xs : List Value} {t : TN} (hown : w.ownsRow base 61 5 v n xs) (hone : OneAt w v) (hB : w.heap[B]? = some (.cells t.v 61 (0, 0))) (hn : n ≤ 100000) (hbase : base ≤ w.heap.size) (ty : TypeId) :
    ∃ g cap w', (Builtin.append_ #[59, 59] ty #[v, .slice (some ⟨B, 0, none⟩) 1 1]).run Tryz.prog w = .ok (.slice (some ⟨g, 0, none⟩) (n + 1) cap) w' ∧
      w'.ownsRow base 61 5 (.slice (some ⟨g, 0, none⟩) (n + 1) cap) (n + 1) (xs ++ t.v.toList) ∧ w.grownBy w' v.ownBlock ∧ (v.ownBlock = some g ∨ g = w.heap.size) ∧ g < w'.heap.size ∧ OneAt w' (.slice (some ⟨g, 0, none⟩) (n + 1) cap) := by
  obtain ⟨iT, hiT, hz0, hz1, hz2⟩ := infoTree'
  obtain ⟨g, cap, w', hr, h2, h3, h4, h5⟩ := run_append_lies (P := Tryz.prog) w 59 ty base 61 iT (.agg #[.int .u8 0, .int .u32 0, .bool false, .slice none 0 0, .slice none 0 0]) 5 64 undTrees hiT hz0 hz1 hz2 rfl (by decide) v n xs hown ⟨B, 0, none⟩ 1 1 t.v.toList rfl (World.news_of_block hB) (one_v t) (by decide) (by unfold maxLen; omega) (by omega) hbase _ rfl
  refine ⟨g, cap, w', hr, h2, h3, h4, h5, ?_⟩
  have hload : ∀ w' : World, w'.heap = w.heap → (Builtin.firstCells iT.size 1 (.slice (some ⟨B, 0, none⟩) 1 1)).run Tryz.prog w' = .ok t.v w' := fun w' hw => by
    rw [hz1]
    exact run_loadCells_blk _ (by rw [hw]; exact hB) 0 5 (by simp [TN.v])
  have out : ∀ {ao : Option Addr} {c : Nat} {old : Array Value}, v = .slice ao n c → ¬ n + 1 ≤ c → (Builtin.firstCells iT.size n (.slice ao n c)).run Tryz.prog w.drew = .ok old w.drew → (∀ u ∈ old.toList, u.oneCell' = true) → OneAt w' (.slice (some ⟨g, 0, none⟩) (n + 1) cap) := by
    intro ao c old hv hroom hold h1
    subst hv
    obtain ⟨cap', c1, c2, hr'⟩ := run_append_out (P := Tryz.prog) (w := w) (ts := #[59, 59]) (ty := ty) (base := ao) (sLen := n) (sCap := c) (n := 1) (x := .slice (some ⟨B, 0, none⟩) 1 1) rfl rfl undTrees undTrees rfl hiT hz0 rfl hroom (by unfold CB; omega) (by rw [hz2]; omega) hold (hload w.drew rfl)
    rw [hr] at hr'
    injection hr' with e1 e2
    intro g' cs E fz hg hc u hu
    injection e1 with e3 e4 e5
    injection e3 with e3
    injection e3 with e3
    simp only [Value.ownBlock, Option.some.injEq] at hg
    subst hg
    rw [e2, alloc_get, if_pos (by rw [e3]; rfl)] at hc
    cases hc
    simp only [Array.toList_append, List.mem_append] at hu
    rcases hu with (hu | hu) | hu
    · exact h1 u hu
    · exact one_v t u hu
    · exact one_zero _ u hu
  rcases hown.2 with ⟨hv, h0⟩ | ⟨g0, cap0, cur, hv, hb, hg0, hnc, hcm, hcs, htk⟩
  · subst h0
    exact out (old := #[]) hv (by omega) rfl (fun u hu => by simp at hu)
  · have hcur : ∀ u ∈ cur.toList, u.oneCell' = true := hone g0 cur _ _ (by rw [hv]; rfl) hg0
    by_cases hroom : n + 1 ≤ cap0
    · subst hv
      have hst := run_storeCells_blk Tryz.prog t.v.toList g0 (n * 5) 0 w cur 61 (0, 0) hg0 (by rw [hcs]; simp [TN.v]; omega) (fun j _ h => by omega) (one_v t)
      have hr' := run_append_in (P := Tryz.prog) (w := w) (ts := #[59, 59]) (ty := ty) (base := some ⟨g0, 0, none⟩) (sLen := n) (sCap := cap0) (n := 1) (x := .slice (some ⟨B, 0, none⟩) 1 1) rfl rfl undTrees undTrees rfl hiT rfl (hload w rfl) hroom (by
        show (storeCells ((⟨g0, 0, none⟩ : Addr).add (n * iT.size)) t.v.toList).run Tryz.prog w = _
        rw [hz1, Addr.add_none, Nat.zero_add]
        exact hst)
      rw [hr] at hr'
      injection hr' with e1 e2
      injection e1 with e3 e4 e5
      injection e3 with e3
      injection e3 with e3
      intro g' cs E fz hg hc u hu
      simp only [Value.ownBlock, Option.some.injEq] at hg
      subst hg
      rw [e2, e3, setBlk_get (lt_of_blk hg0), if_pos rfl] at hc
      cases hc
      obtain ⟨i, hi⟩ := List.getElem?_of_mem hu
      rw [Array.getElem?_toList, spl_get _ _ _ _ (by rw [hcs]; simp [TN.v]; omega)] at hi
      split at hi
      · exact one_v t u (List.mem_of_getElem? hi)
      · exact hcur u (List.mem_of_getElem? (by rw [Array.getElem?_toList]; exact hi))
    · have hl := run_loadCells_blk Tryz.prog (w := w.drew) (b := g0) (cs := cur) (E := 61) (fz := (0, 0)) hg0 0 (n * 5) (by rw [hcs]; omega)
      refine out (old := cur.extract 0 (0 + n * 5)) hv hroom (by rw [hz1]; exact hl) (fun u hu => hcur u ?_)
      simp only [Array.toList_extract, List.extract_eq_take_drop] at hu
      exact List.mem_of_mem_take hu

theorem TypedC.per {χ : Chi} {t : TN} (h : TypedC χ t) : PerOK Tryz.prog χ χ.A treeC t.v := by
  intro i v hv
  rcases i with _ | _ | _ | _ | _ | i
  · cases hv; exact ⟨.int .u8 0 255, rfl, t.vc, rfl, h.n.c0⟩
  · cases hv; exact ⟨.int .u32 0 4294967295, rfl, t.vt, rfl, h.n.t0⟩
  · cases hv; exact ⟨.bool, rfl, t.vb, rfl⟩
  · cases hv; exact ⟨.slice (.base 5), rfl, t.a3, t.l3, t.c3, rfl, h.n.l3.1, h.n.l3.2.1, h.n.l3.2.2, by rw [tauO]; exact h.r3⟩
  · cases hv; exact ⟨.slice (.base 61), rfl, t.a4, t.l4, t.c4, rfl, h.n.l4.1, h.n.l4.2.1, h.n.l4.2.2, by rw [tauT]; exact h.r4⟩
  · simp [TN.v] at hv

end Go.Sx

namespace Go.Sx
open Go Go.Proofs

def treePar : AV := .pv (.agg [.int .u8 (.v 0), .int .u32 (.v 1), .bool (.eq (.v 2) (.c 1)), .slice false (.base 5) (.v 3) (.v 4), .slice false (.base 61) (.v 5) (.v 6)])
def treeIv : List IV := [some (0, 255), some (0, 4294967295), some (0, 1), some (0, 1099511627776), some (0, 9223372036854775807), some (0, 1099511627776), some (0, 9223372036854775807)]

theorem tau5w : tau Tryz.prog (.base 5) = oct := by kernel_rfl

theorem tree_arg {χ : Chi} {a : Value} {l : List IV} (ha : gAV Tryz.prog χ treePar a) (hi : ivOK χ.ρ 0 (treeIv ++ l)) : ∃ t : TN, a = t.agg ∧ TypedC χ t := by
  obtain ⟨cs, rfl, hcs, _⟩ := ha
  obtain ⟨cs⟩ := cs
  match cs, hcs with
  | [v0, v1, v2, v3, v4], ⟨g0, g1, g2, g3, g4, _⟩ =>
    obtain ⟨a3, l3, c3, rfl, p1, p2, p3, p4, p5⟩ := g3
    obtain ⟨a4, l4, c4, rfl, q1, q2, q3, q4, q5⟩ := g4
    simp only [gSV, T.ev] at g0 g1 g2
    subst g0 g1 g2
    obtain ⟨i0, i1, i2, i3, _, i5, _⟩ := hi
    simp only [SE.ev, tau5w] at p5
    simp only [SE.ev, tauT] at q5
    simp only [T.ev] at p1 p2 q1 q2
    have h3 : l3 ≤ 1099511627776 := by have h : χ.ρ 3 ≤ 1099511627776 := i3.2; omega
    have h5 : l4 ≤ 1099511627776 := by have h : χ.ρ 5 ≤ 1099511627776 := i5.2; omega
    exact ⟨⟨χ.ρ 0, χ.ρ 1, _, a3, l3, c3, a4, l4, c4⟩, rfl, ⟨i0, i1, ⟨p3, h3, p4⟩, row_short p5 p3, ⟨q3, h5, q4⟩, row_short q5 q3⟩, p5, q5⟩

theorem berr_out {χ : Chi} {w w' : World} {e : Ending} (n : Nat) (h : BErr χ w e w') : ∃ v χ', e = .returned v ∧ Ext n χ χ' ∧ MemExt χ w χ' w' ∧ Inv Tryz.prog χ' w' ∧ gAV Tryz.prog χ' (.tup [.one (.slice true (.base 5) (.v n) (.v (n + 1))), .one (.int .i64 (.v (n + 2)))]) v ∧
    ivOK χ'.ρ n [some (0, 65536), some (0, 9223372036854775807), some (-9223372036854775808, 9223372036854775807)] ∧ holdsAll χ'.ρ [.le (.v n) (.v (n + 1))] := by
  obtain ⟨ao2, l2, c2, χ2, r, rfl, r0, r1, l0, lc, cc, hr, G⟩ := h
  have k1 : Ext n χ (χ2.withρ (rext χ.ρ n [(l2 : Int), (c2 : Int), r])) := ⟨fun i hi => by simp only [Chi.withρ]; exact rext_lt hi, G.ext.F, G.ext.A, G.ext.κ⟩
  unfold CB at cc
  have z0 : rext χ.ρ n [(l2 : Int), (c2 : Int), r] n = l2 := by
    unfold rext
    rw [if_neg (by omega), Nat.sub_self]
    rfl
  have z1 : rext χ.ρ n [(l2 : Int), (c2 : Int), r] (n + 1) = c2 := by
    unfold rext
    rw [if_neg (by omega), show n + 1 - n = 1 by omega]
    rfl
  have z2 : rext χ.ρ n [(l2 : Int), (c2 : Int), r] (n + 2) = r := by
    unfold rext
    rw [if_neg (by omega), show n + 2 - n = 2 by omega]
    rfl
  refine ⟨_, _, rfl, k1, G.mem.withρ _, G.inv.withρ _, ?_, ?_, ?_⟩
  · refine ⟨_, rfl, ⟨ao2, l2, c2, rfl, ?_, ?_, lc, cc, ?_⟩, ?_, trivial⟩
    · exact z0.symm
    · exact z1.symm
    · simp only [SE.ev, tau5w]; exact hr
    · show Value.int .i64 r = Value.int .i64 (rext χ.ρ n [(l2 : Int), (c2 : Int), r] (n + 2))
      rw [z2]
  · refine ⟨?_, ?_, ?_, trivial⟩
    · show 0 ≤ rext χ.ρ n [(l2 : Int), (c2 : Int), r] n ∧ rext χ.ρ n [(l2 : Int), (c2 : Int), r] n ≤ 65536
      rw [z0]; omega
    · show 0 ≤ rext χ.ρ n [(l2 : Int), (c2 : Int), r] (n + 1) ∧ rext χ.ρ n [(l2 : Int), (c2 : Int), r] (n + 1) ≤ 9223372036854775807
      rw [z1]; omega
    · show -9223372036854775808 ≤ rext χ.ρ n [(l2 : Int), (c2 : Int), r] (n + 2) ∧ rext χ.ρ n [(l2 : Int), (c2 : Int), r] (n + 2) ≤ 9223372036854775807
      rw [z2]; omega
  · refine ⟨?_, trivial⟩
    show rext χ.ρ n [(l2 : Int), (c2 : Int), r] n ≤ rext χ.ρ n [(l2 : Int), (c2 : Int), r] (n + 1)
    rw [z0, z1]; omega

noncomputable def cTenc : Contract := conOfX Tryz.prog 1099511627776 65536 [] [] [] [] ((Tryz.prog.funcs[54]?).getD default)

set_option maxRecDepth 100000 in
theorem hand54 : FnOK Tryz.prog 54 cTenc := by
  have e1 : cTenc.iv = treeIv ++ [] := by kernel_rfl
  have e2 : cTenc.params = [treePar] := by kernel_rfl
  have e4 : cTenc.riv = [some (0, 65536), some (0, 9223372036854775807), some (-9223372036854775808, 9223372036854775807)] := by kernel_rfl
  have e5 : cTenc.res = .tup [.one (.slice true (.base 5) (.v 7) (.v (7 + 1))), .one (.int .i64 (.v (7 + 2)))] := by kernel_rfl
  have e6 : cTenc.post = [.le (.v 7) (.v (7 + 1))] := by kernel_rfl
  have e7 : cTenc.nv = 7 := by kernel_rfl
  intro χ w args hinv ha hi hp _
  rw [e2] at ha
  rw [e1] at hi
  obtain ⟨args⟩ := args
  match args, ha with
  | [a], ⟨ha, _⟩ =>
    obtain ⟨t, rfl, ht⟩ := tree_arg ha hi
    refine (encodeT_any hinv ht.n).mono ?_
    intro e w' hb
    rw [e7, e5, e4, e6]
    exact berr_out 7 hb

end Go.Sx

namespace Go.Sx
open Go Go.Proofs

noncomputable def cTcheck : Contract := conOf Tryz.prog 1099511627776 3 false ((Tryz.prog.funcs[48]?).getD default)

set_option maxRecDepth 100000 in
theorem hand48 : FnOK Tryz.prog 48 cTcheck := by
  have e1 : cTcheck.iv = treeIv ++ [] := by kernel_rfl
  have e2 : cTcheck.params = [treePar] := by kernel_rfl
  have e4 : cTcheck.riv = [some (-9223372036854775808, 9223372036854775807)] := by kernel_rfl
  have e5 : cTcheck.res = .pv (.one (.int .i64 (.v 7))) := by kernel_rfl
  have e6 : cTcheck.post = [] := by kernel_rfl
  have e7 : cTcheck.nv = 7 := by kernel_rfl
  refine fnOK_plain fun χ w args hinv ha hi hp => ?_
  rw [e2] at ha
  rw [e1] at hi
  obtain ⟨args⟩ := args
  match args, ha with
  | [a], ⟨ha, _⟩ =>
    obtain ⟨t, rfl, ht⟩ := tree_arg ha hi
    refine (check_any hinv ht.n).mono ?_
    rintro e w' ⟨hg, r, rfl, r0, r1, _⟩
    refine ⟨_, [r], rfl, hg, ?_, ?_, ?_⟩
    · rw [e5, e7]
      show Value.int .i64 r = Value.int .i64 (rext χ.ρ 7 [r] 7)
      simp [rext]
    · rw [e4, e7]
      refine ⟨?_, trivial⟩
      simp [rext]
      omega
    · rw [e6]; trivial

def treePar2 : AV := .pv (.agg [.int .u8 (.v 7), .int .u32 (.v 8), .bool (.eq (.v 9) (.c 1)), .slice false (.base 5) (.v 10) (.v 11), .slice false (.base 61) (.v 12) (.v 13)])

theorem tree_arg2 {χ : Chi} {a : Value} {l : List IV} (ha : gAV Tryz.prog χ treePar2 a) (hi : ivOK χ.ρ 7 (treeIv ++ l)) : ∃ t : TN, a = t.agg ∧ TypedC χ t := by
  obtain ⟨cs, rfl, hcs, _⟩ := ha
  obtain ⟨cs⟩ := cs
  match cs, hcs with
  | [v0, v1, v2, v3, v4], ⟨g0, g1, g2, g3, g4, _⟩ =>
    obtain ⟨a3, l3, c3, rfl, p1, p2, p3, p4, p5⟩ := g3
    obtain ⟨a4, l4, c4, rfl, q1, q2, q3, q4, q5⟩ := g4
    simp only [gSV, T.ev] at g0 g1 g2
    subst g0 g1 g2
    obtain ⟨i0, i1, i2, i3, _, i5, _⟩ := hi
    simp only [SE.ev, tau5w] at p5
    simp only [SE.ev, tauT] at q5
    simp only [T.ev] at p1 p2 q1 q2
    have h3 : l3 ≤ 1099511627776 := by have h : χ.ρ 10 ≤ 1099511627776 := i3.2; omega
    have h5 : l4 ≤ 1099511627776 := by have h : χ.ρ 12 ≤ 1099511627776 := i5.2; omega
    exact ⟨⟨χ.ρ 7, χ.ρ 8, _, a3, l3, c3, a4, l4, c4⟩, rfl, ⟨i0, i1, ⟨p3, h3, p4⟩, row_short p5 p3, ⟨q3, h5, q4⟩, row_short q5 q3⟩, p5, q5⟩

theorem PartAt.typedC {χ : Chi} {w : World} {t p : TN} {i : Nat} (hinv : Inv Tryz.prog χ w) (h4 : RowOK χ χ.A treeC t.a4 t.l4) (hi : i < t.l4) (hp : PartAt χ w t i p) : TypedC χ p := by
  obtain ⟨b, o, e, hA, hc⟩ := hp
  obtain ⟨b', o', e', hb, hr⟩ := row_read (l := t.l4) (i := i) hinv h4 (Nat.le_refl _) hi (by decide)
  rw [e] at e'
  cases e'
  obtain ⟨v0, k0, n0, rfl, g00, g01⟩ := hr 0 _ rfl
  obtain ⟨v1, k1, n1, rfl, g10, g11⟩ := hr 1 _ rfl
  obtain ⟨v2, k2, b2, rfl⟩ := hr 2 _ rfl
  obtain ⟨v3, k3, a3, l3, c3, rfl, g30, g31, g32, g33⟩ := hr 3 _ rfl
  obtain ⟨v4, k4, a4, l4, c4, rfl, g40, g41, g42, g43⟩ := hr 4 _ rfl
  have q0 : some (Value.int .u8 n0) = some (.int .u8 p.vc) := k0.symm.trans (hc 0 (by omega))
  have q1 : some (Value.int .u32 n1) = some (.int .u32 p.vt) := k1.symm.trans (hc 1 (by omega))
  have q3 : some (Value.slice a3 l3 c3) = some (.slice p.a3 p.l3 p.c3) := k3.symm.trans (hc 3 (by omega))
  have q4 : some (Value.slice a4 l4 c4) = some (.slice p.a4 p.l4 p.c4) := k4.symm.trans (hc 4 (by omega))
  rw [tauO] at g33
  rw [tauT] at g43
  obtain ⟨vc, vt, vb, pa3, pl3, pc3, pa4, pl4, pc4⟩ := p
  simp only [Option.some.injEq, Value.int.injEq, Value.slice.injEq, true_and] at q0 q1 q3 q4
  obtain ⟨rfl, rfl, rfl⟩ := q3
  obtain ⟨rfl, rfl, rfl⟩ := q4
  subst q0 q1
  exact ⟨⟨⟨g00, g01⟩, ⟨g10, g11⟩, ⟨g30, g31, g32⟩, row_short g33 g30, ⟨g40, g41, g42⟩, row_short g43 g40⟩, g33, g43⟩

def BoolNew (w : World) (e : Ending) (w' : World) : Prop := (∃ b, e = .returned (.bool b)) ∧ w.grownBy w' none

set_option maxRecDepth 100000 in
set_option maxHeartbeats 1600000 in
theorem equalfunc_any {χ : Chi} {w : World} {t u : TN} {f : FuncId} (hi : Inv Tryz.prog χ w) (hl4 : t.l4 ≤ 1099511627776) {ps qs : Nat → TN} (hps : ∀ i, i < t.l4 → PartAt χ w t i (ps i)) (hqs : ∀ i, i < u.l4 → PartAt χ w u i (qs i)) (hcal : callable Tryz.prog f = true)
    (ht : ∀ w', w.grownBy w' none → ∀ i, i < t.l4 → i < u.l4 → Calls Tryz.prog f #[(ps i).agg, (qs i).agg] w' (BoolNew w')) :
    Calls Tryz.prog 170 #[.slice t.a4 t.l4 t.c4, .slice u.a4 u.l4 u.c4, .func (.func f) #[] #[]] w (BoolNew w) := by
  obtain ⟨fn, hh, hbody, hname⟩ := callable_ok hcal
  have hcf := run_callFn hh hbody hname
  obtain ⟨vc, vt, vb, a3, l3, c3, a4, l4, c4⟩ := t
  obtain ⟨uc, ut, ub, b3, m3, d3, b4, m4, d4⟩ := u
  dsimp only at *
  by_cases hlen : l4 = m4
  · subst hlen
    have hne : ((l4 : Int) != (l4 : Int)) = false := by simp
    go_enter Tryz.func170, Tryz.ntmps170
    go_wp2_with fail
    go_loopg [17] l4 (fun k q wr => ∃ j : Nat, k + j = l4 ∧ q = .int .i64 (j : Int) ∧ w.grownBy wr none)
    case atStart => exact ⟨0, rfl, rfl, grown_refl _⟩
    case round =>
      obtain ⟨j, hjk, rfl, hg⟩ := hrel
      cases gk with
      | zero =>
        have hil : decide (j < l4) = false := by simp; omega
        obtain rfl : j = l4 := by omega
        go_wp2
        exact bodyPost_ret (v := .bool true) (by simp [results, Tryz.results170, go_sem]) rfl ⟨⟨_, rfl⟩, hg⟩
      | succ k =>
        have hlt : j < l4 := by omega
        have hlt' : j < l4 := by omega
        have hil : decide (j < l4) = true := by simp; omega
        have hi0 : (0 : Int) ≤ (j : Int) := by omega
        have hi1 : (j : Int) < (l4 : Int) := by omega
        have hi40 : (j : Int) ≤ 1099511627776 := by omega
        have hk : ∀ b, χ.A b → wr.heap[b]? = w.heap[b]? := fun b hb => hg.block b (hi.lt hb) (by simp)
        have hp := (hps j hlt).same (χ' := χ) (w' := wr) (fun _ h => h) hk
        have hq := (hqs j hlt').same (χ' := χ) (w' := wr) (fun _ h => h) hk
        obtain ⟨b, o, e4, hA, q0, q1, q2, q3, q4⟩ := hp.cells
        obtain ⟨b2, o2, e5, hA2, r0, r1, r2, r3, r4⟩ := hq.cells
        have hbw : b < wr.heap.size := Nat.lt_of_lt_of_le (hi.lt hA) hg.size
        have hbw2 : b2 < wr.heap.size := Nat.lt_of_lt_of_le (hi.lt hA2) hg.size
        have htest := fun o1 o2 => ht ((wr.alloc o1).alloc o2) (grown_trans hg (grown_trans (grown_alloc _ _) (grown_alloc _ _))) j hlt hlt'
        unfold TN.agg at htest
        clear ht hps hp hqs hq hk
        go_wp2_with fail
        refine (htest _ _).mono ?_
        clear htest q0 q1 q2 q3 q4 r0 r1 r2 r3 r4
        rintro e w2 ⟨⟨bb, rfl⟩, hg2⟩
        have hg3 := grown_trans hg (grown_trans (grown_trans (grown_alloc _ _) (grown_alloc _ _)) hg2)
        cases bb with
        | false =>
          go_wp2_with fail
          exact bodyPost_ret (v := .bool false) (by simp [results, Tryz.results170, go_sem]) rfl ⟨⟨_, rfl⟩, hg3⟩
        | true =>
          go_wp2_with fail
          rw [← e4, ← e5]
          go_roundg k
          case measure => exact Nat.lt_succ_self k
          exact ⟨j + 1, by omega, rfl, hg3⟩
  · have hne : ((l4 : Int) != (m4 : Int)) = true := by simp; omega
    go_enter Tryz.func170, Tryz.ntmps170
    go_wp2_with fail
    exact bodyPost_ret (v := .bool false) (by simp [results, Tryz.results170, go_sem]) rfl ⟨⟨_, rfl⟩, grown_refl _⟩

noncomputable def cBeq : Contract := conOf Tryz.prog 1099511627776 3 false ((Tryz.prog.funcs[129]?).getD default)

set_option maxRecDepth 100000 in
theorem beq_call (hb : FnOK Tryz.prog 129 cBeq) {χ : Chi} {w : World} (hinv : Inv Tryz.prog χ w) {a b : Option Addr} {l c l2 c2 : Nat} (h1 : l ≤ c ∧ l ≤ 1099511627776 ∧ c ≤ CB) (hr : RowOK χ χ.A oct a c) (h2 : l2 ≤ c2 ∧ l2 ≤ 1099511627776 ∧ c2 ≤ CB) (hr2 : RowOK χ χ.A oct b c2) :
    Calls Tryz.prog 129 #[.slice a l c, .slice b l2 c2] w (BoolNew w) := by
  have e1 : cBeq.iv = [some (0, 1099511627776), some (0, 9223372036854775807), some (0, 1099511627776), some (0, 9223372036854775807)] := by kernel_rfl
  have e2 : cBeq.params = [.pv (.one (.slice false (.base 5) (.v 0) (.v 1))), .pv (.one (.slice false (.base 5) (.v 2) (.v 3)))] := by kernel_rfl
  have e3 : cBeq.pre = [.le (.v 0) (.v 1), .le (.v 2) (.v 3)] := by kernel_rfl
  have e5 : cBeq.res = .pv (.one (.bool (.eq (.v 4) (.c 1)))) := by kernel_rfl
  have e6 : cBeq.gl = [] := by kernel_rfl
  obtain ⟨h10, h11, h12⟩ := h1
  obtain ⟨h20, h21, h22⟩ := h2
  have h12' := h12
  have h22' := h22
  unfold CB at h12' h22'
  let ρ : Val := fun i => if i = 0 then (l : Int) else if i = 1 then (c : Int) else if i = 2 then (l2 : Int) else (c2 : Int)
  refine (shut_call hb (χ := χ.withρ ρ) (w := w) (args := #[.slice a l c, .slice b l2 c2]) (hinv.withρ _) ?_ ?_ ?_ e6).mono ?_
  · rw [e2]
    refine ⟨⟨a, l, c, rfl, by simp [T.ev, Chi.withρ, Chi.shut, ρ], by simp [T.ev, Chi.withρ, Chi.shut, ρ], h10, h12, ?_⟩, ⟨b, l2, c2, rfl, by simp [T.ev, Chi.withρ, Chi.shut, ρ], by simp [T.ev, Chi.withρ, Chi.shut, ρ], h20, h22, ?_⟩, trivial⟩
    · simp only [SE.ev, tau5w]; exact hr
    · simp only [SE.ev, tau5w]; exact hr2
  · rw [e1]
    simp only [ivOK, Chi.withρ, ρ]
    simp
    omega
  · rw [e3]
    simp only [holdsAll, Fm.holds, T.ev, Chi.withρ, ρ]
    simp
    omega
  · rintro e w' ⟨v, χ', rfl, hg, _, _, _, hv, _⟩
    rw [e5] at hv
    exact ⟨⟨_, congrArg _ hv⟩, hg⟩

theorem same_cal : callable Tryz.prog 133 = true := by kernel_rfl

set_option maxRecDepth 100000 in
set_option maxHeartbeats 3200000 in
theorem same_any (hb : FnOK Tryz.prog 129 cBeq) : ∀ d {χ : Chi} {w : World} {n s : Nat} {t u : TN}, Inv Tryz.prog χ w → TreeAt χ w d n s t → TypedC χ t → TypedC χ u → Calls Tryz.prog 133 #[t.agg, u.agg] w (BoolNew w) := by
  intro d
  induction d with
  | zero => intro χ w n s t u _ h; exact h.elim
  | succ d ih =>
    intro χ w n s t u hi ht hct hcu
    obtain ⟨_, ns, ss, ps, _, _, hps⟩ := ht
    have hqs : ∃ qs : Nat → TN, ∀ i, i < u.l4 → PartAt χ w u i (qs i) := by
      have := fun i (h : i < u.l4) => part_read hi hcu.n h
      exact ⟨fun i => if h : i < u.l4 then (this i h).choose else u, fun i h => by simp only [h, dif_pos]; exact (this i h).choose_spec.1⟩
    obtain ⟨qs, hqs⟩ := hqs
    have hg0 : w.grownBy ((w.alloc (.cells #[.int .u8 t.vc, .int .u32 t.vt, .bool t.vb, .slice t.a3 t.l3 t.c3, .slice t.a4 t.l4 t.c4] 61)).alloc (.cells #[.int .u8 u.vc, .int .u32 u.vt, .bool u.vb, .slice u.a3 u.l3 u.c3, .slice u.a4 u.l4 u.c4] 61)) none := grown_trans (grown_alloc _ _) (grown_alloc _ _)
    have hbe := fun w' (hg : w.grownBy w' none) => beq_call hb (hi.same (w' := w') (fun b hb => hg.block b (hi.lt hb) (by simp))) ⟨hct.n.l3.1, by have := hct.n.l3.2.1; unfold LB at this; exact this, hct.n.l3.2.2⟩ hct.r3 ⟨hcu.n.l3.1, by have := hcu.n.l3.2.1; unfold LB at this; exact this, hcu.n.l3.2.2⟩ hcu.r3
    have hef := fun w' (hg : w.grownBy w' none) => equalfunc_any (t := t) (u := u) (f := 133) (hi.same (w' := w') (fun b hb => hg.block b (hi.lt hb) (by simp))) (by have := hct.n.l4.2.1; unfold LB at this; exact this) (fun i h => (hps i h).1.same (fun _ h => h) (fun b hb => hg.block b (hi.lt hb) (by simp))) (fun i h => (hqs i h).same (fun _ h => h) (fun b hb => hg.block b (hi.lt hb) (by simp))) same_cal (fun w'' hg2 i h1 h2 => by
      have hgg := grown_trans hg hg2
      have hk : ∀ b, χ.A b → w''.heap[b]? = w.heap[b]? := fun b hb => hgg.block b (hi.lt hb) (by simp)
      exact ih (hi.same hk) ((hps i h1).2.same (Ext.refl 0 χ) hk) ((hps i h1).1.typedC hi hct.n.r4 h1) ((hqs i h2).typedC hi hcu.n.r4 h2))
    have hbw := hbe _ hg0
    clear ih hps hqs
    unfold TN.agg
    obtain ⟨vc, vt, vb, a3, l3, c3, a4, l4, c4⟩ := t
    obtain ⟨uc, ut, ub, b3, m3, d3, b4, m4, d4⟩ := u
    dsimp only at *
    by_cases h1 : vc = uc
    · subst h1
      have e1 : (vc == vc) = true := by simp
      by_cases h2 : vt = ut
      · subst h2
        have e2 : (vt == vt) = true := by simp
        by_cases h3 : vb = ub
        · subst h3
          have e3 : (vb == vb) = true := by simp
          go_enter Tryz.func133, Tryz.ntmps133
          go_wp2_with fail
          refine hbw.mono ?_
          clear hbw hbe
          rintro e w2 ⟨⟨bb, rfl⟩, hg2⟩
          have hg3 := grown_trans hg0 hg2
          have hE := hg2.block w.heap.size (by rw [alloc_size, alloc_size]; omega) (by simp)
          have hE2 := hg2.block (w.heap.size + 1) (by rw [alloc_size, alloc_size]; omega) (by simp)
          rw [alloc_get, if_neg (by rw [alloc_size]; omega), alloc_get, if_pos rfl] at hE
          rw [alloc_get, if_pos (by rw [alloc_size])] at hE2
          have k4 : w2.cell? ⟨w.heap.size, 4, none⟩ = some (.slice a4 l4 c4) := by rw [cell?_blk hE]; rfl
          have j4 : w2.cell? ⟨w.heap.size + 1, 4, none⟩ = some (.slice b4 m4 d4) := by rw [cell?_blk hE2]; rfl
          cases bb with
          | false =>
            go_wp2_with fail
            exact bodyPost_ret (v := .bool false) (by simp [results, Tryz.results133, go_sem]) rfl ⟨⟨_, rfl⟩, hg3⟩
          | true =>
            have hef2 := hef _ hg3
            clear hef
            go_wp2_with fail
            refine hef2.mono ?_
            clear hef2
            rintro e w4 ⟨⟨b5, rfl⟩, hg5⟩
            go_wp2_with fail
            exact bodyPost_ret (v := .bool b5) (by simp [results, Tryz.results133, go_sem]) rfl ⟨⟨_, rfl⟩, grown_trans hg3 hg5⟩
        · have e3 : (vb == ub) = false := by simpa using h3
          go_enter Tryz.func133, Tryz.ntmps133
          go_wp2_with fail
          exact bodyPost_ret (v := .bool false) (by simp [results, Tryz.results133, go_sem]) rfl ⟨⟨_, rfl⟩, hg0⟩
      · have e2 : (vt == ut) = false := by simpa using h2
        go_enter Tryz.func133, Tryz.ntmps133
        go_wp2_with fail
        exact bodyPost_ret (v := .bool false) (by simp [results, Tryz.results133, go_sem]) rfl ⟨⟨_, rfl⟩, hg0⟩
    · have e1 : (vc == uc) = false := by simpa using h1
      go_enter Tryz.func133, Tryz.ntmps133
      go_wp2_with fail
      exact bodyPost_ret (v := .bool false) (by simp [results, Tryz.results133, go_sem]) rfl ⟨⟨_, rfl⟩, hg0⟩

set_option maxRecDepth 100000 in
set_option maxHeartbeats 3200000 in
theorem bsame_any (hb : FnOK Tryz.prog 129 cBeq) {χ : Chi} {w : World} {t u : TN} (hi : Inv Tryz.prog χ w) (hct : TypedC χ t) (hcu : TypedC χ u) : Calls Tryz.prog 71 #[t.agg, u.agg] w (BoolNew w) := by
  have hg0 : w.grownBy ((w.alloc (.cells #[.int .u8 t.vc, .int .u32 t.vt, .bool t.vb, .slice t.a3 t.l3 t.c3, .slice t.a4 t.l4 t.c4] 61)).alloc (.cells #[.int .u8 u.vc, .int .u32 u.vt, .bool u.vb, .slice u.a3 u.l3 u.c3, .slice u.a4 u.l4 u.c4] 61)) none := grown_trans (grown_alloc _ _) (grown_alloc _ _)
  have hE : ((w.alloc (.cells #[.int .u8 t.vc, .int .u32 t.vt, .bool t.vb, .slice t.a3 t.l3 t.c3, .slice t.a4 t.l4 t.c4] 61)).alloc (.cells #[.int .u8 u.vc, .int .u32 u.vt, .bool u.vb, .slice u.a3 u.l3 u.c3, .slice u.a4 u.l4 u.c4] 61)).heap[w.heap.size]? = some (.cells #[.int .u8 t.vc, .int .u32 t.vt, .bool t.vb, .slice t.a3 t.l3 t.c3, .slice t.a4 t.l4 t.c4] 61 (0, 0)) := by
    rw [alloc_get, if_neg (by rw [alloc_size]; omega), alloc_get, if_pos rfl]
  have hE2 : ((w.alloc (.cells #[.int .u8 t.vc, .int .u32 t.vt, .bool t.vb, .slice t.a3 t.l3 t.c3, .slice t.a4 t.l4 t.c4] 61)).alloc (.cells #[.int .u8 u.vc, .int .u32 u.vt, .bool u.vb, .slice u.a3 u.l3 u.c3, .slice u.a4 u.l4 u.c4] 61)).heap[w.heap.size + 1]? = some (.cells #[.int .u8 u.vc, .int .u32 u.vt, .bool u.vb, .slice u.a3 u.l3 u.c3, .slice u.a4 u.l4 u.c4] 61 (0, 0)) := by
    rw [alloc_get, if_pos (by rw [alloc_size])]
  have hch := fun w' (hg : w.grownBy w' none) => check_any (hi.same (w' := w') (fun b hb => hg.block b (hi.lt hb) (by simp))) hct.n
  have hch2 := fun w' (hg : w.grownBy w' none) => check_any (hi.same (w' := w') (fun b hb => hg.block b (hi.lt hb) (by simp))) hcu.n
  have hsm := fun w1 w' n s (hg1 : w.grownBy w1 none) (hg : w1.grownBy w' none) (hT : TreeAt χ w1 16 n s t) => same_any hb 16 (hi.same (w' := w') (fun b hb => (grown_trans hg1 hg).block b (hi.lt hb) (by simp))) (hT.same (Ext.refl 0 χ) (fun b hb => hg.block b (Nat.lt_of_lt_of_le (hi.lt hb) hg1.size) (by simp))) hct hcu
  unfold TN.agg at *
  have hcw := hch _ hg0
  clear hch
  go_enter Tryz.func71, Tryz.ntmps71
  go_wp2_with fail
  generalize (w.alloc (.cells #[.int .u8 t.vc, .int .u32 t.vt, .bool t.vb, .slice t.a3 t.l3 t.c3, .slice t.a4 t.l4 t.c4] 61)).alloc (.cells #[.int .u8 u.vc, .int .u32 u.vt, .bool u.vb, .slice u.a3 u.l3 u.c3, .slice u.a4 u.l4 u.c4] 61) = w1 at *
  refine hcw.mono ?_
  clear hcw
  rintro e w2 ⟨hg2, r, rfl, r0, r1, hT⟩
  have hg20 := grown_trans hg0 hg2
  have hEb := (hg2.block _ (lt_of_blk hE) (by simp)).trans hE
  have hE2b := (hg2.block _ (lt_of_blk hE2) (by simp)).trans hE2
  by_cases hr : r = 0
  · subst hr
    obtain ⟨n, s, _, hT2⟩ := hT.1 rfl
    clear hT
    obtain ⟨k0, k1, k2, k3, k4⟩ := TN.cells5 hE2b
    have hcw := hch2 _ hg20
    clear hch2
    go_wp2_with fail
    refine hcw.mono ?_
    clear hcw k0 k1 k2 k3 k4
    rintro e w3 ⟨hg3, q, rfl, q0, q1, _⟩
    have hg30 := grown_trans hg20 hg3
    have hEc := (hg3.block _ (lt_of_blk hEb) (by simp)).trans hEb
    have hE2c := (hg3.block _ (lt_of_blk hE2b) (by simp)).trans hE2b
    by_cases hq : q = 0
    · subst hq
      obtain ⟨k0, k1, k2, k3, k4⟩ := TN.cells5 hEc
      obtain ⟨j0, j1, j2, j3, j4⟩ := TN.cells5 hE2c
      have hsw := hsm _ w3 n s hg0 (grown_trans hg2 hg3) hT2
      clear hsm
      go_wp2_with fail
      refine hsw.mono ?_
      clear hsw
      rintro e w4 ⟨⟨bb, rfl⟩, hg4⟩
      go_wp2_with fail
      exact bodyPost_ret (v := .bool bb) (by simp [results, Tryz.results71, go_sem]) rfl ⟨⟨_, rfl⟩, grown_trans hg30 hg4⟩
    · have hqb : (q == 0) = false := by simpa using hq
      go_wp2_with fail
      exact bodyPost_ret (v := .bool false) (by simp [results, Tryz.results71, go_sem]) rfl ⟨⟨_, rfl⟩, hg30⟩
  · have hrb : (r == 0) = false := by simpa using hr
    go_wp2_with fail
    exact bodyPost_ret (v := .bool false) (by simp [results, Tryz.results71, go_sem]) rfl ⟨⟨_, rfl⟩, hg20⟩

noncomputable def cTsame : Contract := conOf Tryz.prog 1099511627776 3 false ((Tryz.prog.funcs[71]?).getD default)

set_option maxRecDepth 100000 in
theorem hand71 (hb : FnOK Tryz.prog 129 cBeq) : FnOK Tryz.prog 71 cTsame := by
  have e1 : cTsame.iv = treeIv ++ (treeIv ++ []) := by kernel_rfl
  have e2 : cTsame.params = [treePar, treePar2] := by kernel_rfl
  have e4 : cTsame.riv = [some (0, 1)] := by kernel_rfl
  have e5 : cTsame.res = .pv (.one (.bool (.eq (.v 14) (.c 1)))) := by kernel_rfl
  have e6 : cTsame.post = [] := by kernel_rfl
  have e7 : cTsame.nv = 14 := by kernel_rfl
  refine fnOK_plain fun χ w args hinv ha hi hp => ?_
  rw [e2] at ha
  rw [e1] at hi
  obtain ⟨args⟩ := args
  match args, ha with
  | [a, b], ⟨ha, hb2, _⟩ =>
    obtain ⟨t, rfl, ht⟩ := tree_arg ha hi
    obtain ⟨u, rfl, hu⟩ := tree_arg2 hb2 ((ivOK_append _ _ _ _).1 hi).2
    refine (bsame_any hb hinv ht hu).mono ?_
    rintro e w' ⟨⟨bb, rfl⟩, hg⟩
    refine ⟨_, [if bb then 1 else 0], rfl, hg, ?_, ?_, ?_⟩
    · rw [e5, e7]
      show Value.bool bb = Value.bool (Fm.b (rext χ.ρ 14 [if bb then 1 else 0]) (.eq (.v 14) (.c 1)))
      cases bb <;> simp [rext, Fm.b, T.ev]
    · rw [e4, e7]
      refine ⟨?_, trivial⟩
      cases bb <;> simp [rext]
    · rw [e6]; trivial

end Go.Sx
