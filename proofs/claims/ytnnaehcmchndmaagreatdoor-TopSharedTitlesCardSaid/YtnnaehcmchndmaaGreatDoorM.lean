/- Part M of a proof: helper lemmas; no conditions. -/
import Derived.Test.YtnnaehcmchndmaaGreatDoorH
import Derived.Deep.LoopGhost
import Derived.Test.YtnnaehcmchndmaaGreatDoorProg
import Derived.WalkKit
import Derived.WalkSpells
import Derived.StillTactics
import Derived.OwnWalk
import Derived.Laws.Pointers
import Derived.Deep.RegionLaw
import Derived.Deep.AppendLies
import Derived.KernelRfl
import Derived.Test.YtnnaehcmchndmaaGreatDoorI
import Derived.Test.YtnnaehcmchndmaaGreatDoorJ
import Derived.StillTailTactics

set_option linter.unusedSimpArgs false
set_option linter.unusedVariables false

namespace Go.Sx
open Go Go.Proofs

def GreatPost (w : World) (ns : List Int) (ss : List ByteArray) (e : Ending) (w' : World) : Prop := ∃ g : Bool, e = .returned (.bool g) ∧ w.grownBy w' none ∧ (g = false → ns.length ≤ 2000 ∧ ∀ s ∈ ss, s.size ≤ 2000)

set_option maxRecDepth 100000 in
set_option maxHeartbeats 3200000 in
theorem great114 (w : World) (b1 b2 : Nat) (vn vs : Value) (mk : Bool) (at_ : Int) (ns : List Int) (ss : List ByteArray)
    (h1 : w.ownsRow b1 3 1 vn ns.length (ns.map (.int .i64))) (h2 : w.ownsRow b2 9 1 vs ss.length (ss.map .string)) (hsz : ∀ s ∈ ss, s.size ≤ maxLen) :
    Calls Tryz.prog 114 #[.agg #[vn, vs, .bool mk, .int .i64 at_]] w (GreatPost w ns ss) := by
  have f1 : ∃ ao c, vn = .slice ao ns.length c := by
    rcases h1.2 with ⟨h1, h2⟩ | ⟨g, cap, cur, h1, _⟩
    · exact ⟨none, 0, by rw [h1, h2]⟩
    · exact ⟨_, _, h1⟩
  have f2 : ∃ ao c, vs = .slice ao ss.length c := by
    rcases h2.2 with ⟨h1, h2⟩ | ⟨g, cap, cur, h1, _⟩
    · exact ⟨none, 0, by rw [h1, h2]⟩
    · exact ⟨_, _, h1⟩
  have hmm : ss.length ≤ 9223372036854775807 := by
    rcases h2.2 with ⟨_, h⟩ | ⟨g, cap, cur, _, _, _, h5, h6, _⟩
    · omega
    · unfold maxLen at h6; omega
  obtain ⟨a1, c1, rfl⟩ := f1
  obtain ⟨a2, c2, rfl⟩ := f2
  go_enter Tryz.func114, Tryz.ntmps114
  go_wp2_with fail
  have k10 : (w.alloc (Obj.cells #[Value.slice a1 ns.length c1, Value.slice a2 ss.length c2, Value.bool mk, Value.int IntKind.i64 at_] 171)).cell? ⟨w.heap.size, 0, none⟩ = some (Value.slice a1 ns.length c1) := by simp [go_sem]
  have k11 : (w.alloc (Obj.cells #[Value.slice a1 ns.length c1, Value.slice a2 ss.length c2, Value.bool mk, Value.int IntKind.i64 at_] 171)).cell? ⟨w.heap.size, 1, none⟩ = some (Value.slice a2 ss.length c2) := by simp [go_sem]
  have hg0 := grown_alloc w (Obj.cells #[Value.slice a1 ns.length c1, Value.slice a2 ss.length c2, Value.bool mk, Value.int IntKind.i64 at_] 171)
  have o2 := h2.kept hg0 (by cases a2 <;> simp [Value.ownBlock])
  generalize w.alloc (Obj.cells #[Value.slice a1 ns.length c1, Value.slice a2 ss.length c2, Value.bool mk, Value.int IntKind.i64 at_] 171) = W at *
  go_loopg [3, 4] ss.length (fun k p q wr => ∃ (i : Nat) (B : Nat), q = .int .i64 i ∧ p = .int .i64 B ∧ i + k = ss.length ∧ Hp W wr ∧ B ≤ 2000 ∧ ∀ j (hj : j < ss.length), j < i → ss[j].size ≤ B)
  · exact ⟨0, 0, by simp, by simp, by omega, Hp.refl _, by omega, fun j _ h => by omega⟩
  · obtain ⟨i, B, rfl, rfl, hik, hp, hB, hall⟩ := hrel
    have k10' := (hp.cell ⟨w.heap.size, 0, none⟩).trans k10
    have k11' := (hp.cell ⟨w.heap.size, 1, none⟩).trans k11
    clear k10 k11
    cases gk with
    | zero =>
      have hil : decide (i < ss.length) = false := by simp; omega
      have hall' : ∀ s ∈ ss, s.size ≤ 2000 := by
        intro s hs
        obtain ⟨j, hj, rfl⟩ := List.getElem_of_mem hs
        exact Nat.le_trans (hall j hj (by omega)) hB
      clear hall
      go_wp2
      go_ret
      refine ⟨_, rfl, grown_trans hg0 hp.grown, fun hgf => ⟨?_, hall'⟩⟩
      have : (ns.length : Int) ≤ 2000 := by simpa using hgf
      omega
    | succ k =>
      have hil : decide (i < ss.length) = true := by simp; omega
      have hi0 : (0 : Int) ≤ (i : Int) := by omega
      have hi1 : (i : Int) < (ss.length : Int) := by omega
      have hi40 : (i : Int) ≤ 9223372036854775806 := by omega
      obtain ⟨g2, rfl, x2⟩ := owns_at o2 (i := i) (by omega)
      have hlt : i < ss.length := by omega
      have hz : (ss.map Value.string)[i]? = some (.string ss[i]) := by simp [List.getElem?_eq_getElem hlt]
      rw [hz] at x2
      have y2 := (hp.cell ⟨g2, i, none⟩).trans x2
      have hzs := hsz ss[i] (List.getElem_mem hlt)
      unfold maxLen at hzs
      clear hz x2
      have hB0 : (0 : Int) ≤ (B : Int) := by omega
      have hB1 : (B : Int) ≤ 2000 := by omega
      have hall2 : ∀ j (hj : j < ss.length), j < i + 1 → ss[j].size ≤ B + ss[i].size := by
        intro j hj hji
        rcases Nat.lt_or_ge j i with h | h
        · have := hall j hj h; omega
        · have : j = i := by omega
          subst this; omega
      clear hall
      go_wp2
      all_goals first
        | (go_ret; exact ⟨true, rfl, grown_trans hg0 hp.grown, fun h => nomatch h⟩)
        | (go_roundg k <;> first | omega | exact ⟨i + 1, B + ss[i].size, by go_num, by go_num, by omega, hp, by omega, hall2⟩)
        | (exfalso; omega)

end Go.Sx

namespace Go.Sx
open Go Go.Proofs

set_option maxRecDepth 100000 in
set_option maxHeartbeats 3200000 in
theorem same116 (w : World) (b1 b2 b3 b4 : Nat) (vn vs vn' vs' : Value) (mk mk' : Bool) (at_ at' : Int) (ns : List Int) (ss : List ByteArray)
    (h1 : w.ownsRow b1 3 1 vn ns.length (ns.map (.int .i64))) (h2 : w.ownsRow b2 9 1 vs ss.length (ss.map .string)) (h3 : w.ownsRow b3 3 1 vn' ns.length (ns.map (.int .i64))) (h4 : w.ownsRow b4 9 1 vs' ss.length (ss.map .string)) :
    Calls Tryz.prog 116 #[.agg #[vn, vs, .bool mk, .int .i64 at_], .agg #[vn', vs', .bool mk', .int .i64 at']] w fun e w' => e = .returned (.bool true) ∧ w.grownBy w' none := by
  have f1 : ∃ ao c, vn = .slice ao ns.length c := by
    rcases h1.2 with ⟨h1, h2⟩ | ⟨g, cap, cur, h1, _⟩
    · exact ⟨none, 0, by rw [h1, h2]⟩
    · exact ⟨_, _, h1⟩
  have f2 : ∃ ao c, vs = .slice ao ss.length c := by
    rcases h2.2 with ⟨h1, h2⟩ | ⟨g, cap, cur, h1, _⟩
    · exact ⟨none, 0, by rw [h1, h2]⟩
    · exact ⟨_, _, h1⟩
  have f3 : ∃ ao c, vn' = .slice ao ns.length c := by
    rcases h3.2 with ⟨h1, h2⟩ | ⟨g, cap, cur, h1, _⟩
    · exact ⟨none, 0, by rw [h1, h2]⟩
    · exact ⟨_, _, h1⟩
  have f4 : ∃ ao c, vs' = .slice ao ss.length c := by
    rcases h4.2 with ⟨h1, h2⟩ | ⟨g, cap, cur, h1, _⟩
    · exact ⟨none, 0, by rw [h1, h2]⟩
    · exact ⟨_, _, h1⟩
  obtain ⟨a1, c1, rfl⟩ := f1
  obtain ⟨a2, c2, rfl⟩ := f2
  obtain ⟨a3, c3, rfl⟩ := f3
  obtain ⟨a4, c4, rfl⟩ := f4
  have hnm : ns.length ≤ 9223372036854775807 := by
    rcases h1.2 with ⟨_, h⟩ | ⟨g, cap, cur, _, _, _, h5, h6, _⟩
    · omega
    · unfold maxLen at h6; omega
  have hmm : ss.length ≤ 9223372036854775807 := by
    rcases h2.2 with ⟨_, h⟩ | ⟨g, cap, cur, _, _, _, h5, h6, _⟩
    · omega
    · unfold maxLen at h6; omega
  generalize hn : ns.length = n at *
  generalize hm : ss.length = m at *
  go_enter Tryz.func116, Tryz.ntmps116
  go_wp2_with fail
  have k10 : ((w.alloc (Obj.cells #[Value.slice a1 n c1, Value.slice a2 m c2, Value.bool mk, Value.int IntKind.i64 at_] 171)).alloc (Obj.cells #[Value.slice a3 n c3, Value.slice a4 m c4, Value.bool mk', Value.int IntKind.i64 at'] 171)).cell? ⟨w.heap.size, 0, none⟩ = some (Value.slice a1 n c1) := by simp [go_sem]
  have k11 : ((w.alloc (Obj.cells #[Value.slice a1 n c1, Value.slice a2 m c2, Value.bool mk, Value.int IntKind.i64 at_] 171)).alloc (Obj.cells #[Value.slice a3 n c3, Value.slice a4 m c4, Value.bool mk', Value.int IntKind.i64 at'] 171)).cell? ⟨w.heap.size, 1, none⟩ = some (Value.slice a2 m c2) := by simp [go_sem]
  have k20 : ((w.alloc (Obj.cells #[Value.slice a1 n c1, Value.slice a2 m c2, Value.bool mk, Value.int IntKind.i64 at_] 171)).alloc (Obj.cells #[Value.slice a3 n c3, Value.slice a4 m c4, Value.bool mk', Value.int IntKind.i64 at'] 171)).cell? ⟨w.heap.size + 1, 0, none⟩ = some (Value.slice a3 n c3) := by simp [go_sem]
  have k21 : ((w.alloc (Obj.cells #[Value.slice a1 n c1, Value.slice a2 m c2, Value.bool mk, Value.int IntKind.i64 at_] 171)).alloc (Obj.cells #[Value.slice a3 n c3, Value.slice a4 m c4, Value.bool mk', Value.int IntKind.i64 at'] 171)).cell? ⟨w.heap.size + 1, 1, none⟩ = some (Value.slice a4 m c4) := by simp [go_sem]
  have hg0 := grown_trans (grown_alloc w (Obj.cells #[Value.slice a1 n c1, Value.slice a2 m c2, Value.bool mk, Value.int IntKind.i64 at_] 171)) (grown_alloc _ (Obj.cells #[Value.slice a3 n c3, Value.slice a4 m c4, Value.bool mk', Value.int IntKind.i64 at'] 171))
  have o1 := h1.kept hg0 (by cases a1 <;> simp [Value.ownBlock])
  have o2 := h2.kept hg0 (by cases a2 <;> simp [Value.ownBlock])
  have o3 := h3.kept hg0 (by cases a3 <;> simp [Value.ownBlock])
  have o4 := h4.kept hg0 (by cases a4 <;> simp [Value.ownBlock])
  generalize (w.alloc (Obj.cells #[Value.slice a1 n c1, Value.slice a2 m c2, Value.bool mk, Value.int IntKind.i64 at_] 171)).alloc (Obj.cells #[Value.slice a3 n c3, Value.slice a4 m c4, Value.bool mk', Value.int IntKind.i64 at'] 171) = W at *
  go_loopg [5] n (fun k p wr => ∃ i : Nat, p = .int .i64 i ∧ i + k = n ∧ Hp W wr)
  · exact ⟨0, by simp, by omega, Hp.refl _⟩
  · obtain ⟨i, rfl, hik, hp⟩ := hrel
    have k10' := (hp.cell ⟨w.heap.size, 0, none⟩).trans k10
    have k11' := (hp.cell ⟨w.heap.size, 1, none⟩).trans k11
    have k20' := (hp.cell ⟨w.heap.size + 1, 0, none⟩).trans k20
    have k21' := (hp.cell ⟨w.heap.size + 1, 1, none⟩).trans k21
    cases gk with
    | zero =>
      have hil : decide (i < n) = false := by simp; omega
      go_wp2_with fail
      go_loopg [6] m (fun k p ws => ∃ j : Nat, p = .int .i64 j ∧ j + k = m ∧ Hp W ws)
      · exact ⟨0, by simp, by omega, hp⟩
      · clear hp k10' k11' k20' k21' hil hik
        obtain ⟨j, rfl, hjk, hq⟩ := hrel
        have k10 := (hq.cell ⟨w.heap.size, 0, none⟩).trans k10
        have k11 := (hq.cell ⟨w.heap.size, 1, none⟩).trans k11
        have k20 := (hq.cell ⟨w.heap.size + 1, 0, none⟩).trans k20
        have k21 := (hq.cell ⟨w.heap.size + 1, 1, none⟩).trans k21
        cases gk with
        | zero =>
          have hjl : decide (j < m) = false := by simp; omega
          go_wp2
          go_ret
          exact ⟨rfl, grown_trans hg0 hq.grown⟩
        | succ k =>
          have hjl : decide (j < m) = true := by simp; omega
          have hj0 : (0 : Int) ≤ (j : Int) := by omega
          have hj1 : (j : Int) < (m : Int) := by omega
          have hj40 : (j : Int) ≤ 9223372036854775806 := by have := hmm; omega
          obtain ⟨g2, rfl, x2⟩ := owns_at o2 (i := j) (by omega)
          obtain ⟨g4, rfl, x4⟩ := owns_at o4 (i := j) (by omega)
          have hz : (ss.map Value.string)[j]? = some (.string ss[j]) := by simp [List.getElem?_eq_getElem (show j < ss.length by omega)]
          rw [hz] at x2 x4
          have y2 := (hq.cell ⟨g2, j, none⟩).trans x2
          have y4 := (hq.cell ⟨g4, j, none⟩).trans x4
          generalize ss[j] = z at *
          clear hz x2 x4
          go_wp2
          go_region_law (fail)
          all_goals go_wp2
          all_goals (go_roundg k <;> first | omega | exact ⟨j + 1, by go_num, by omega, hq.drew⟩)
    | succ k =>
      have hil : decide (i < n) = true := by simp; omega
      have hi0 : (0 : Int) ≤ (i : Int) := by omega
      have hi1 : (i : Int) < (n : Int) := by omega
      have hi40 : (i : Int) ≤ 9223372036854775806 := by have := hnm; omega
      obtain ⟨g1, rfl, x1⟩ := owns_at o1 (i := i) (by omega)
      obtain ⟨g3, rfl, x3⟩ := owns_at o3 (i := i) (by omega)
      have hz : (ns.map (Value.int .i64))[i]? = some (.int .i64 ns[i]) := by simp [List.getElem?_eq_getElem (show i < ns.length by omega)]
      rw [hz] at x1 x3
      have y1 := (hp.cell ⟨g1, i, none⟩).trans x1
      have y3 := (hp.cell ⟨g3, i, none⟩).trans x3
      generalize ns[i] = z at *
      clear hz x1 x3
      go_wp2
      go_region_law (fail)
      all_goals go_wp2
      all_goals (go_roundg k <;> first | omega | exact ⟨i + 1, by go_num, by omega, hp.drew⟩)

end Go.Sx

namespace Go.Sx
open Go Go.Proofs

theorem info171 : (Tryz.prog.info? 171).map (fun i => (i.zero, i.size, i.bytes)) = some (some (.agg eyeZ), 4, 64) := by kernel_rfl

def LookPost (w : World) (cl : List Clos) (e : Ending) (w' : World) : Prop := ∃ v, e = .returned v ∧ w.grownBy w' none ∧ EyeRow 3 9 w.heap.size w' v (cl.map (Clos.seen w))

set_option maxRecDepth 100000 in
set_option maxHeartbeats 3200000 in
theorem look115 (w : World) (v : Value) (cl : List Clos) (hv : ClosRow w v cl) (hok : ∀ c ∈ cl, ClosOK Tryz.prog 3 9 w c) (hn : cl.length ≤ 1000) :
    Calls Tryz.prog 115 #[v] w (LookPost w cl) := by
  obtain ⟨i171, hi, hy0, hy1, hy2⟩ := info_parts info171
  have hms : ∀ w : World, (Instr.makeSlice 172 (.int .i64 (cl.length : Int)) (.int .i64 (cl.length : Int))).run Tryz.prog w = .ok (.slice (some ⟨w.heap.size, 0, none⟩) cl.length cl.length) (w.alloc (.cells (madeCells eyeZ (cl.length * 4)) 171)) := by
    intro w
    have := run_makeSlice (P := Tryz.prog) w 172 171 i171 (.agg eyeZ) Tryz.underlying172 hi hy0 .i64 .i64 cl.length cl.length (by omega) (by omega) (by rw [hy1]; omega) (by rw [hy2]; omega) (by omega)
    rw [hy1] at this
    simpa [Value.cells] using this
  have f : ∃ ao c, v = .slice ao cl.length c := by
    rcases hv with ⟨rfl, rfl⟩ | ⟨lb, c, rfl, _⟩
    · exact ⟨none, 0, rfl⟩
    · exact ⟨_, _, rfl⟩
  obtain ⟨ao, c, rfl⟩ := f
  have hs := look_start (T3 := 3) (T9 := 9) w cl 171
  go_enter Tryz.func115, Tryz.ntmps115
  go_wp2_with fail
  go_loopg [4] cl.length (fun k p wr => ∃ i : Nat, p = .int .i64 i ∧ LookRel 3 9 w w.heap.size cl.length cl k i wr)
  · exact ⟨0, by simp, hs⟩
  · clear hs
    obtain ⟨i, rfl, hr⟩ := hrel
    cases gk with
    | zero =>
      have hil : decide (i < cl.length) = false := by have := hr.ik; simp; omega
      go_wp2
      go_ret
      exact ⟨_, rfl, hr.out⟩
    | succ k =>
      have hil : decide (i < cl.length) = true := by have := hr.ik; simp; omega
      have hi0 : (0 : Int) ≤ (i : Int) := by omega
      have hi1 : (i : Int) < (cl.length : Int) := by have := hr.ik; omega
      have hi40 : (i : Int) ≤ 1000 := by omega
      have hlt : i < cl.length := by omega
      rcases hv with ⟨rfl, _⟩ | ⟨lb, cc, hve, hlb, hcells⟩
      · simp at hlt
      · cases hve
        have hci : cl[i]? = some cl[i] := List.getElem?_eq_getElem hlt
        have hcell := hcells i _ hci
        have hx : hr.grown.block lb hlb (by simp) = hr.grown.block lb hlb (by simp) := rfl
        have hcell' := (World.cell?_of_block (a := ⟨lb, i, none⟩) (hr.grown.block lb hlb (by simp))).trans hcell
        have hcall := hr.drew.round hci (hok _ (List.getElem_mem hlt))
        obtain ⟨fn, hh, hbody, hname⟩ := callable_ok (hok _ (List.getElem_mem hlt)).call
        generalize cl[i] = cz at *
        have hcf := run_callFn hh hbody hname
        simp only [Clos.val] at hcell'
        clear hcells hcell hx hci hms hok
        go_wp2
        go_region_with ((refine hcall.mono ?_; rintro e w' ⟨rfl, hr2⟩))
        all_goals go_wp2
        all_goals (go_roundg k <;> first | omega | exact ⟨i + 1, by go_num, hr2⟩)

end Go.Sx

namespace Go.Sx
open Go Go.Proofs

def TruePost (w : World) (e : Ending) (w' : World) : Prop := e = .returned (.bool true) ∧ w.grownBy w' none

set_option maxRecDepth 100000 in
set_option maxHeartbeats 3200000 in
theorem alike117 (w : World) (v v' : Value) (sts sts' : List Seen) (but : Int) {lo lo' : Nat} (h1 : EyeRow 3 9 lo w v sts) (h2 : EyeRow 3 9 lo' w v' sts') (hl : sts'.length = sts.length) (he : ∀ i : Nat, (i : Int) ≠ but → sts'[i]? = sts[i]?) (hn : sts.length ≤ 1000) :
    Calls Tryz.prog 117 #[v, v', .int .i64 but] w (TruePost w) := by
  obtain ⟨oa, rfl, ha⟩ := h1
  obtain ⟨ob, rfl, hb⟩ := h2
  rw [hl]
  go_enter Tryz.func117, Tryz.ntmps117
  go_wp2_with fail
  go_loopg [7] sts.length (fun k p wr => ∃ i : Nat, p = .int .i64 i ∧ i + k = sts.length ∧ w.grownBy wr none)
  · exact ⟨0, by simp, by omega, ⟨rfl, rfl, rfl, Nat.le_refl _, fun _ _ _ => rfl⟩⟩
  · obtain ⟨i, rfl, hik, hg⟩ := hrel
    cases gk with
    | zero =>
      have hil : decide (i < sts.length) = false := by simp; omega
      clear ha hb he
      go_wp2
      go_ret
      exact ⟨rfl, hg⟩
    | succ k =>
      have hil : decide (i < sts.length) = true := by simp; omega
      have hi0 : (0 : Int) ≤ (i : Int) := by omega
      have hi1 : (i : Int) < (sts.length : Int) := by omega
      have hi40 : (i : Int) ≤ 1000 := by omega
      have hlt : i < sts.length := by omega
      by_cases hbut : (i : Int) = but
      · subst hbut
        clear ha hb he
        have hbd : ((i : Int) != (i : Int)) = false := by simp
        go_wp2
        refine wp_still_tail 12 (by kernel_rfl) (by kernel_rfl) (fun K hK => ?_)
        simp only [List.take_succ_cons, List.take_zero, List.drop_succ_cons, List.drop_zero] at hK ⊢
        simp only [wpStill]
        go_simp
        refine hK _ ?_
        clear hK K
        go_wp2
        all_goals (go_roundg k <;> first | omega | exact ⟨i + 1, by go_num, by omega, grown_drew hg⟩)
      · have hci : sts[i]? = some sts[i] := List.getElem?_eq_getElem hlt
        have hci' : sts'[i]? = some sts[i] := (he i hbut).trans hci
        obtain ⟨vn, vs, b1, at_, q0, q1, q2, q3, q4, q5, _⟩ := ((ha i _ hci).grown (grown_drew hg)).h
        obtain ⟨vn', vs', b2, at', r0, r1, r2, r3, r4, r5, _⟩ := ((hb i _ hci').grown (grown_drew hg)).h
        have hcall := same116 wr.drew b1 b1 b2 b2 vn vs vn' vs' false false at_ at' _ _ q4 q5 r4 r5
        have hbd : decide ((i : Int) = but) = false := by simpa using hbut
        clear ha hb he hci hci'
        go_wp2
        refine wp_still_tail 12 (by kernel_rfl) (by kernel_rfl) (fun K hK => ?_)
        simp only [List.take_succ_cons, List.take_zero, List.drop_succ_cons, List.drop_zero] at hK ⊢
        simp only [wpStill]
        go_simp
        refine hK _ ?_
        clear hK K
        go_wp2_with ((refine hcall.mono ?_; rintro e w' ⟨rfl, hg2⟩))
        go_roundg k <;> first | omega | exact ⟨i + 1, by go_num, by omega, grown_trans (grown_drew hg) hg2⟩

end Go.Sx
