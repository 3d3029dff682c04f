/- Part TgO of a proof: helper lemmas; no conditions. -/
import Derived.Test.YtadhlkgjiccdpaaGreatDoorTgM
import Derived.Test.YtadhlkgjiccdpaaGreatDoorHnC
import Derived.Deep.AppendLies
import Derived.Deep.RegionLaw
import Derived.Test.YtadhlkgjiccdpaaGreatDoorTgE

set_option linter.unusedSimpArgs false
set_option linter.unusedVariables false

/-
  A list of elements that the function has made itself and that no typed memory knows yet: appending to it; its block taken into typed memory.
-/
namespace Go.Sx
open Go Go.Proofs

/-- typed whole, the room behind too -/
structure TypedC (χ : Chi) (t : TN) : Prop where
  n : TypedN χ t
  r3 : RowOK χ χ.A oct t.a3 t.c3
  r4 : RowOK χ χ.A treeC t.a4 t.c4

def partsV (ts : List TN) : List Value := ts.flatMap fun t => t.v.toList

theorem infoTree : (Tryz.prog.info? 61).map (fun i => (i.zero, i.size, i.bytes)) = some (some (.agg #[.int .u8 0, .int .u32 0, .bool false, .slice none 0 0, .slice none 0 0]), 5, 64) := by kernel_rfl

theorem infoTree' : ∃ i, Tryz.prog.info? 61 = some i ∧ i.zero = some (.agg #[.int .u8 0, .int .u32 0, .bool false, .slice none 0 0, .slice none 0 0]) ∧ i.size = 5 ∧ i.bytes = 64 := by
  have h := infoTree
  cases hi : Tryz.prog.info? 61 with
  | none => rw [hi] at h; cases h
  | some i =>
    rw [hi] at h
    simp only [Option.map_some, Option.some.injEq, Prod.mk.injEq] at h
    exact ⟨i, rfl, h.1, h.2.1, h.2.2⟩

theorem undTrees : Tryz.prog.underlying 59 = some (.slice 61) := by kernel_rfl

/-- each cell of the list's block is one cell -/
def OneAt (w : World) (v : Value) : Prop := ∀ g cs E fz, v.ownBlock = some g → w.heap[g]? = some (.cells cs E fz) → ∀ u ∈ cs.toList, u.oneCell' = true

theorem one_v (t : TN) : ∀ u ∈ t.v.toList, u.oneCell' = true := by
  intro u hu
  simp only [TN.v, List.mem_cons, List.not_mem_nil, or_false] at hu
  rcases hu with rfl | rfl | rfl | rfl | rfl <;> rfl

theorem one_zero (n : Nat) : ∀ u ∈ (Builtin.zeroCells (Value.agg #[.int .u8 0, .int .u32 0, .bool false, .slice none 0 0, .slice none 0 0]).cells n).toList, u.oneCell' = true := by
  intro u hu
  simp only [Builtin.zeroCells, Array.toList_map, List.mem_map] at hu
  obtain ⟨i, _, rfl⟩ := hu
  have : i % (Value.agg #[.int .u8 0, .int .u32 0, .bool false, .slice none 0 0, .slice none 0 0]).cells.size < 5 := Nat.mod_lt _ (by decide)
  generalize i % (Value.agg #[.int .u8 0, .int .u32 0, .bool false, .slice none 0 0, .slice none 0 0]).cells.size = q at *
  rcases q with _ | _ | _ | _ | _ | q
  · rfl
  · rfl
  · rfl
  · rfl
  · rfl
  · omega

set_option maxRecDepth 100000 in
theorem own_append {w : World} {base n B : Nat} {v : Value} {xs : List Value} {t : TN} (hown : w.ownsRow base 61 5 v n xs) (hone : OneAt w v) (hB : w.heap[B]? = some (.cells t.v 61 (0, 0))) (hn : n ≤ 100000) (hbase : base ≤ w.heap.size) (ty : TypeId) :
    ∃ g cap w', (Builtin.append_ #[59, 59] ty #[v, .slice (some ⟨B, 0, none⟩) 1 1]).run Tryz.prog w = .ok (.slice (some ⟨g, 0, none⟩) (n + 1) cap) w' ∧
      w'.ownsRow base 61 5 (.slice (some ⟨g, 0, none⟩) (n + 1) cap) (n + 1) (xs ++ t.v.toList) ∧ w.grownBy w' v.ownBlock ∧ (v.ownBlock = some g ∨ g = w.heap.size) ∧ g < w'.heap.size ∧ OneAt w' (.slice (some ⟨g, 0, none⟩) (n + 1) cap) := by
  obtain ⟨iT, hiT, hz0, hz1, hz2⟩ := infoTree'
  obtain ⟨g, cap, w', hr, h2, h3, h4, h5⟩ := run_append_lies (P := Tryz.prog) w 59 ty base 61 iT (.agg #[.int .u8 0, .int .u32 0, .bool false, .slice none 0 0, .slice none 0 0]) 5 64 undTrees hiT hz0 hz1 hz2 rfl (by decide) v n xs hown ⟨B, 0, none⟩ 1 1 t.v.toList rfl (World.news_of_block hB) (one_v t) (by decide) (by unfold maxLen; omega) (by omega) hbase _ rfl
  refine ⟨g, cap, w', hr, h2, h3, h4, h5, ?_⟩
  have hload : ∀ w' : World, w'.heap = w.heap → (Builtin.firstCells iT.size 1 (.slice (some ⟨B, 0, none⟩) 1 1)).run Tryz.prog w' = .ok t.v w' := fun w' hw => by
    rw [hz1]
    exact run_loadCells_blk _ (by rw [hw]; exact hB) 0 5 (by simp [TN.v])
  have out : ∀ {ao : Option Addr} {c : Nat} {old : Array Value}, v = .slice ao n c → ¬ n + 1 ≤ c → (Builtin.firstCells iT.size n (.slice ao n c)).run Tryz.prog w.drew = .ok old w.drew → (∀ u ∈ old.toList, u.oneCell' = true) → OneAt w' (.slice (some ⟨g, 0, none⟩) (n + 1) cap) := by
    intro ao c old hv hroom hold h1
    subst hv
    obtain ⟨cap', c1, c2, hr'⟩ := run_append_out (P := Tryz.prog) (w := w) (ts := #[59, 59]) (ty := ty) (base := ao) (sLen := n) (sCap := c) (n := 1) (x := .slice (some ⟨B, 0, none⟩) 1 1) rfl rfl undTrees undTrees rfl hiT hz0 rfl hroom (by unfold CB; omega) (by rw [hz2]; omega) hold (hload w.drew rfl)
    rw [hr] at hr'
    injection hr' with e1 e2
    intro g' cs E fz hg hc u hu
    injection e1 with e3 e4 e5
    injection e3 with e3
    injection e3 with e3
    simp only [Value.ownBlock, Option.some.injEq] at hg
    subst hg
    rw [e2, alloc_get, if_pos (by rw [e3]; rfl)] at hc
    cases hc
    simp only [Array.toList_append, List.mem_append] at hu
    rcases hu with (hu | hu) | hu
    · exact h1 u hu
    · exact one_v t u hu
    · exact one_zero _ u hu
  rcases hown.2 with ⟨hv, h0⟩ | ⟨g0, cap0, cur, hv, hb, hg0, hnc, hcm, hcs, htk⟩
  · subst h0
    exact out (old := #[]) hv (by omega) rfl (fun u hu => by simp at hu)
  · have hcur : ∀ u ∈ cur.toList, u.oneCell' = true := hone g0 cur _ _ (by rw [hv]; rfl) hg0
    by_cases hroom : n + 1 ≤ cap0
    · subst hv
      have hst := run_storeCells_blk Tryz.prog t.v.toList g0 (n * 5) 0 w cur 61 (0, 0) hg0 (by rw [hcs]; simp [TN.v]; omega) (fun j _ h => by omega) (one_v t)
      have hr' := run_append_in (P := Tryz.prog) (w := w) (ts := #[59, 59]) (ty := ty) (base := some ⟨g0, 0, none⟩) (sLen := n) (sCap := cap0) (n := 1) (x := .slice (some ⟨B, 0, none⟩) 1 1) rfl rfl undTrees undTrees rfl hiT rfl (hload w rfl) hroom (by
        show (storeCells ((⟨g0, 0, none⟩ : Addr).add (n * iT.size)) t.v.toList).run Tryz.prog w = _
        rw [hz1, Addr.add_none, Nat.zero_add]
        exact hst)
      rw [hr] at hr'
      injection hr' with e1 e2
      injection e1 with e3 e4 e5
      injection e3 with e3
      injection e3 with e3
      intro g' cs E fz hg hc u hu
      simp only [Value.ownBlock, Option.some.injEq] at hg
      subst hg
      rw [e2, e3, setBlk_get (lt_of_blk hg0), if_pos rfl] at hc
      cases hc
      obtain ⟨i, hi⟩ := List.getElem?_of_mem hu
      rw [Array.getElem?_toList, spl_get _ _ _ _ (by rw [hcs]; simp [TN.v]; omega)] at hi
      split at hi
      · exact one_v t u (List.mem_of_getElem? hi)
      · exact hcur u (List.mem_of_getElem? (by rw [Array.getElem?_toList]; exact hi))
    · have hl := run_loadCells_blk Tryz.prog (w := w.drew) (b := g0) (cs := cur) (E := 61) (fz := (0, 0)) hg0 0 (n * 5) (by rw [hcs]; omega)
      refine out (old := cur.extract 0 (0 + n * 5)) hv hroom (by rw [hz1]; exact hl) (fun u hu => hcur u ?_)
      simp only [Array.toList_extract, List.extract_eq_take_drop] at hu
      exact List.mem_of_mem_take hu

theorem TypedC.per {χ : Chi} {t : TN} (h : TypedC χ t) : PerOK Tryz.prog χ χ.A treeC t.v := by
  intro i v hv
  rcases i with _ | _ | _ | _ | _ | i
  · cases hv; exact ⟨.int .u8 0 255, rfl, t.vc, rfl, h.n.c0⟩
  · cases hv; exact ⟨.int .u32 0 4294967295, rfl, t.vt, rfl, h.n.t0⟩
  · cases hv; exact ⟨.bool, rfl, t.vb, rfl⟩
  · cases hv; exact ⟨.slice (.base 5), rfl, t.a3, t.l3, t.c3, rfl, h.n.l3.1, h.n.l3.2.1, h.n.l3.2.2, by rw [tauO]; exact h.r3⟩
  · cases hv; exact ⟨.slice (.base 61), rfl, t.a4, t.l4, t.c4, rfl, h.n.l4.1, h.n.l4.2.1, h.n.l4.2.2, by rw [tauT]; exact h.r4⟩
  · simp [TN.v] at hv

theorem parts_per {χ : Chi} : ∀ {ts : List TN}, (∀ t ∈ ts, TypedC χ t) → PerOK Tryz.prog χ χ.A treeC (partsV ts).toArray ∧ (partsV ts).length = ts.length * 5
  | [], _ => ⟨PerOK.empty, rfl⟩
  | t :: ts, h => by
    obtain ⟨h1, h2⟩ := parts_per (ts := ts) (fun u hu => h u (List.mem_cons_of_mem _ hu))
    have e : partsV (t :: ts) = t.v.toList ++ partsV ts := by simp [partsV]
    refine ⟨?_, by rw [e, List.length_append, h2]; simp [TN.v]; omega⟩
    have e2 : (partsV (t :: ts)).toArray = t.v ++ (partsV ts).toArray := by rw [e]; simp
    rw [e2]
    exact PerOK.append (a := 1) (h t (by simp)).per rfl h1


end Go.Sx

/-
  Package tags: contracts of the functions that take an element.
-/
namespace Go.Sx
open Go Go.Proofs

def treePar : AV := .pv (.agg [.int .u8 (.v 0), .int .u32 (.v 1), .bool (.eq (.v 2) (.c 1)), .slice false (.base 5) (.v 3) (.v 4), .slice false (.base 61) (.v 5) (.v 6)])
def treeIv : List IV := [some (0, 255), some (0, 4294967295), some (0, 1), some (0, 1099511627776), some (0, 9223372036854775807), some (0, 1099511627776), some (0, 9223372036854775807)]

theorem tau5w : tau Tryz.prog (.base 5) = oct := by kernel_rfl

/-- an element that was handed over -/
theorem tree_arg {χ : Chi} {a : Value} {l : List IV} (ha : gAV Tryz.prog χ treePar a) (hi : ivOK χ.ρ 0 (treeIv ++ l)) : ∃ t : TN, a = t.agg ∧ TypedC χ t := by
  obtain ⟨cs, rfl, hcs, _⟩ := ha
  obtain ⟨cs⟩ := cs
  match cs, hcs with
  | [v0, v1, v2, v3, v4], ⟨g0, g1, g2, g3, g4, _⟩ =>
    obtain ⟨a3, l3, c3, rfl, p1, p2, p3, p4, p5⟩ := g3
    obtain ⟨a4, l4, c4, rfl, q1, q2, q3, q4, q5⟩ := g4
    simp only [gSV, T.ev] at g0 g1 g2
    subst g0 g1 g2
    obtain ⟨i0, i1, i2, i3, _, i5, _⟩ := hi
    simp only [SE.ev, tau5w] at p5
    simp only [SE.ev, tauT] at q5
    simp only [T.ev] at p1 p2 q1 q2
    have h3 : l3 ≤ 1099511627776 := by have h : χ.ρ 3 ≤ 1099511627776 := i3.2; omega
    have h5 : l4 ≤ 1099511627776 := by have h : χ.ρ 5 ≤ 1099511627776 := i5.2; omega
    exact ⟨⟨χ.ρ 0, χ.ρ 1, _, a3, l3, c3, a4, l4, c4⟩, rfl, ⟨i0, i1, ⟨p3, h3, p4⟩, row_short p5 p3, ⟨q3, h5, q4⟩, row_short q5 q3⟩, p5, q5⟩

/-- octets and an error, behind n numbers -/
theorem berr_out {χ : Chi} {w w' : World} {e : Ending} (n : Nat) (h : BErr χ w e w') : ∃ v χ', e = .returned v ∧ Ext n χ χ' ∧ MemExt χ w χ' w' ∧ Inv Tryz.prog χ' w' ∧ gAV Tryz.prog χ' (.tup [.one (.slice true (.base 5) (.v n) (.v (n + 1))), .one (.int .i64 (.v (n + 2)))]) v ∧
    ivOK χ'.ρ n [some (0, 65536), some (0, 9223372036854775807), some (-9223372036854775808, 9223372036854775807)] ∧ holdsAll χ'.ρ [.le (.v n) (.v (n + 1))] := by
  obtain ⟨ao2, l2, c2, χ2, r, rfl, r0, r1, l0, lc, cc, hr, G⟩ := h
  have k1 : Ext n χ (χ2.withρ (rext χ.ρ n [(l2 : Int), (c2 : Int), r])) := ⟨fun i hi => by simp only [Chi.withρ]; exact rext_lt hi, G.ext.F, G.ext.A, G.ext.κ⟩
  unfold CB at cc
  have z0 : rext χ.ρ n [(l2 : Int), (c2 : Int), r] n = l2 := by
    unfold rext
    rw [if_neg (by omega), Nat.sub_self]
    rfl
  have z1 : rext χ.ρ n [(l2 : Int), (c2 : Int), r] (n + 1) = c2 := by
    unfold rext
    rw [if_neg (by omega), show n + 1 - n = 1 by omega]
    rfl
  have z2 : rext χ.ρ n [(l2 : Int), (c2 : Int), r] (n + 2) = r := by
    unfold rext
    rw [if_neg (by omega), show n + 2 - n = 2 by omega]
    rfl
  refine ⟨_, _, rfl, k1, G.mem.withρ _, G.inv.withρ _, ?_, ?_, ?_⟩
  · refine ⟨_, rfl, ⟨ao2, l2, c2, rfl, ?_, ?_, lc, cc, ?_⟩, ?_, trivial⟩
    · exact z0.symm
    · exact z1.symm
    · simp only [SE.ev, tau5w]; exact hr
    · show Value.int .i64 r = Value.int .i64 (rext χ.ρ n [(l2 : Int), (c2 : Int), r] (n + 2))
      rw [z2]
  · refine ⟨?_, ?_, ?_, trivial⟩
    · show 0 ≤ rext χ.ρ n [(l2 : Int), (c2 : Int), r] n ∧ rext χ.ρ n [(l2 : Int), (c2 : Int), r] n ≤ 65536
      rw [z0]; omega
    · show 0 ≤ rext χ.ρ n [(l2 : Int), (c2 : Int), r] (n + 1) ∧ rext χ.ρ n [(l2 : Int), (c2 : Int), r] (n + 1) ≤ 9223372036854775807
      rw [z1]; omega
    · show -9223372036854775808 ≤ rext χ.ρ n [(l2 : Int), (c2 : Int), r] (n + 2) ∧ rext χ.ρ n [(l2 : Int), (c2 : Int), r] (n + 2) ≤ 9223372036854775807
      rw [z2]; omega
  · refine ⟨?_, trivial⟩
    show rext χ.ρ n [(l2 : Int), (c2 : Int), r] n ≤ rext χ.ρ n [(l2 : Int), (c2 : Int), r] (n + 1)
    rw [z0, z1]; omega

noncomputable def cTenc : Contract := conOfX Tryz.prog 1099511627776 65536 [] [] [] [] ((Tryz.prog.funcs[54]?).getD default)

set_option maxRecDepth 100000 in
theorem hand54 : FnOK Tryz.prog 54 cTenc := by
  have e1 : cTenc.iv = treeIv ++ [] := by kernel_rfl
  have e2 : cTenc.params = [treePar] := by kernel_rfl
  have e4 : cTenc.riv = [some (0, 65536), some (0, 9223372036854775807), some (-9223372036854775808, 9223372036854775807)] := by kernel_rfl
  have e5 : cTenc.res = .tup [.one (.slice true (.base 5) (.v 7) (.v (7 + 1))), .one (.int .i64 (.v (7 + 2)))] := by kernel_rfl
  have e6 : cTenc.post = [.le (.v 7) (.v (7 + 1))] := by kernel_rfl
  have e7 : cTenc.nv = 7 := by kernel_rfl
  intro χ w args hinv ha hi hp _
  rw [e2] at ha
  rw [e1] at hi
  obtain ⟨args⟩ := args
  match args, ha with
  | [a], ⟨ha, _⟩ =>
    obtain ⟨t, rfl, ht⟩ := tree_arg ha hi
    refine (encodeT_any hinv ht.n).mono ?_
    intro e w' hb
    rw [e7, e5, e4, e6]
    exact berr_out 7 hb

end Go.Sx
