/- Part ThI of a proof: helper lemmas; no conditions. -/
import Derived.Test.YtnnaehcmchndmaaGreatDoorThH
import Derived.Test.YtnnaehcmchndmaaGreatDoorHnR
import Derived.Sort.LoopGhostIn

set_option linter.unusedSimpArgs false
set_option linter.unusedVariables false

namespace Go.Sx
open Go Go.Proofs Go.RowKit

def encL (x : ByteArray × Bool) : Array Value := #[.string x.1, .bool x.2]
def OkL (w : World) : Prop := ∃ m, w.cell? ⟨3, 0, none⟩ = some (.int .i64 m)

theorem grown_setBlk_some {w : World} {L : Nat} (h : L < w.heap.size) (o : Obj) : w.grownBy (setBlk w L o) (some L) :=
  ⟨rfl, rfl, rfl, by rw [setBlk_size]; exact Nat.le_refl _, fun k _ hk => by rw [setBlk_get h, if_neg (fun e => hk (by rw [e]))]⟩

attribute [local go_sem] Oper.semAt_some

set_option maxRecDepth 100000 in
set_option maxHeartbeats 1600000 in
theorem lines1_any {L : Nat} {s : ByteArray} (hs : s.size ≤ 1048576) : IterL Tryz.prog 291 #[.pointer (some ⟨L, 0, none⟩)] encL (fun x => x.1.size ≤ 1048576) L s.size OkL (.cells #[.string s] 9 (0, 0)) := by
  intro l J Jx W hOk hJ hJx hY hL h0
  refine callsIn_of_wp Tryz.func291 rfl trivial ?_ rfl
  simp only [Tryz.ntmps291, List.size_toArray, List.length_cons, List.length_nil, Nat.reduceAdd, Nat.reduceSub, Array.replicate_succ, Array.replicate_zero, List.push_toArray, List.append_toArray, List.nil_append, List.cons_append]
  gi_wp2
  gi_loopg [] s.size (fun k wr => ∃ (j : Nat) (r : ByteArray), j + r.size ≤ s.size ∧ r.size ≤ k ∧ J j wr ∧ wr.heap[L]? = some (.cells #[.string r] 9 (0, 0)))
  case atStart => exact ⟨0, s, by omega, Nat.le_refl _, h0, hL⟩
  case round =>
    obtain ⟨j, r, hjr, hrk, hj, hr⟩ := hrel
    have hlt := lt_of_blk hr
    have k0 : wr.cell? ⟨L, 0, none⟩ = some (.string r) := by rw [cell?_blk hr]; rfl
    have f0 : wr.frozen? ⟨L, 0, none⟩ = false := by rw [frozen?_blk hr]; simp
    obtain ⟨q, hq⟩ : ∃ q, (r.toList == []) = q := ⟨_, rfl⟩
    obtain ⟨m, hm⟩ := hOk _ _ hj
    have hcut := cut_call (w := wr) (s := r) (sep := ⟨#[10]⟩) (by omega) (by decide) hm
    cases q with
    | true =>
      clear hcut
      gi_wp2
      go_end0
      exact ⟨⟨_, rfl⟩, .inl ⟨_, hj⟩⟩
    | false =>
      have hne : 1 ≤ r.size := by
        rcases Nat.lt_or_ge 0 r.size with h | h
        · exact h
        · have h2 : r = ⟨#[]⟩ := by
            obtain ⟨⟨d⟩⟩ := r
            have hd : d.length = 0 := Nat.le_zero.1 h
            rw [List.length_eq_zero_iff.1 hd]
          subst h2
          have h3 : (ByteArray.mk #[]).toList = [] := by first | rfl | kernel_rfl | (simp [ByteArray.toList, ByteArray.toList.loop]) | (unfold ByteArray.toList; rw [ByteArray.toList.loop]; rfl)
          rw [h3] at hq; exact absurd hq (by decide)
      gi_wp2_with (refine ⟨trivial, ?_⟩; gi_at_call 292; refine (callsIn_wide.2 hcut).mono ?_)
      clear hcut
      rintro e w2 ⟨⟨x, y, b, rfl, hx, hy, hlt1⟩, g2⟩
      have hr2 := (g2.block L hlt (by simp)).trans hr
      have f2 : w2.frozen? ⟨L, 0, none⟩ = false := by rw [frozen?_blk hr2]; simp
      have hlt2 := lt_of_blk hr2
      have c2 : w2.cell? ⟨L, 0, none⟩ = some (.string r) := by rw [cell?_blk hr2]; rfl
      have hset : w2.setCell ⟨L, 0, none⟩ (.string y) = setBlk w2 L (.cells #[.string y] 9 (0, 0)) := by rw [setCell_blk hr2]; rfl
      have hr3 : (setBlk w2 L (.cells #[.string y] 9 (0, 0))).heap[L]? = some (.cells #[.string y] 9 (0, 0)) := by rw [setBlk_get hlt2, if_pos rfl]
      have hj3 := hJ _ _ _ (hJ _ _ _ hj (grown_some_of_none g2 L)) (grown_setBlk_some hlt2 (.cells #[.string y] 9 (0, 0)))
      have hyy := hlt1 hne
      obtain ⟨fn, tmps, assign, body, hyl, hR⟩ := hY _ (x, b) _ hj3 (by omega) (by show x.size ≤ _; omega)
      dsimp only [encL] at hyl
      gi_wp2
      refine hR.mono ?_
      rintro e W3 (⟨rfl, hJ3, hk3⟩ | ⟨rfl, hJx3⟩)
      · gi_wp2
        gi_roundg y.size
        case measure => omega
        case rel =>
          refine ⟨j + 1, y, by omega, Nat.le_refl _, hJ3, ?_⟩
          rw [hk3, hr3]
      · gi_wp2
        refine bodyPost_ret (results_none rfl _ _ _) rfl ?_
        exact ⟨⟨_, rfl⟩, .inr hJx3⟩

end Go.Sx

namespace Go.Sx
open Go Go.Proofs Go.RowKit

theorem MGrows.turn {P : Program} {χ χ' : Chi} {w W W' : World} (h : MGrows P χ w χ' W) {r : Nat} (hg : W.grownBy W' (some r)) (hA : ¬ χ'.A r) (hr : w.heap.size ≤ r) : MGrows P χ w χ' W' := by
  have ne : ∀ {b : Nat}, b ≠ r → some b ≠ some r := fun h e => h (by injection e)
  refine ⟨h.ext, ⟨hg.os.trans h.mem.os, hg.tape.trans h.mem.tape, hg.output.trans h.mem.output, Nat.le_trans h.mem.size hg.size, fun b hb hF => ?_, h.mem.Fn, h.mem.An⟩, h.inv.same fun b hb => hg.block b (h.inv.lt hb) ?_⟩
  · exact (hg.block b (Nat.lt_of_lt_of_le hb h.mem.size) (fun e => by cases e; omega)).trans (h.mem.old b hb hF)
  · intro e; cases e; exact hA hb

theorem lines_any {w : World} {s : ByteArray} : Calls Tryz.prog 219 #[.string s] w fun e w' => e = .returned (.func (.func 291) #[] #[.pointer (some ⟨w.heap.size, 0, none⟩)]) ∧ w' = w.alloc (.cells #[.string s] 9) := by
  have hmf : ∀ (fn : Fn) (first cap : Array Value) (w : World), (Instr.makeFunc fn first cap).run Tryz.prog w = .ok (.func fn first cap) w := fun _ _ _ _ => rfl
  go_enter Tryz.func219, Tryz.ntmps219
  go_wp2_with fail
  exact bodyPost_ret (v := .func (.func 291) #[] #[.pointer (some ⟨w.heap.size, 0, none⟩)]) (by simp [results, Tryz.results219, go_sem]) rfl ⟨rfl, rfl⟩

theorem rclip_val {w : World} {ao : Option Addr} {l c : Nat} (hlc : l ≤ c) (hl : l ≤ 1099511627776) : Calls Tryz.prog 221 #[.slice ao l c] w fun e w' => e = .returned (.slice ao l l) ∧ w' = w := by
  go_enter Tryz.func221, Tryz.ntmps221
  go_wp2
  exact bodyPost_ret (v := .slice ao l l) (by simp [results, Tryz.results221, go_sem]) rfl ⟨rfl, rfl⟩

theorem ruleInfo : ∃ i, Tryz.prog.info? 324 = some i ∧ i.size = ruleC.length ∧ i.bytes = 48 ∧ i.zero = some (.agg ruleZ) := by
  have h1 : (Tryz.prog.info? 324).isSome = true := by kernel_rfl
  have h2 : (Tryz.prog.info? 324).map (fun i => i.size) = some ruleC.length := by kernel_rfl
  have h3 : (Tryz.prog.info? 324).map (fun i => i.bytes) = some 48 := by kernel_rfl
  have h4 : (Tryz.prog.info? 324).map (fun i => i.zero) = some (some (.agg ruleZ)) := by kernel_rfl
  obtain ⟨i, hi⟩ := Option.isSome_iff_exists.1 h1
  rw [hi] at h2 h3 h4
  simp only [Option.map_some, Option.some.injEq] at h2 h3 h4
  exact ⟨i, hi, h2, h3, h4⟩

theorem ruleEl : ElemOK Tryz.prog 139 324 ruleC (.agg ruleZ) 48 where
  und := by kernel_rfl
  info := ruleInfo
  pos := by decide
  zlen := by kernel_rfl
  zero := fun χ S => by
    have hz : (Value.agg ruleZ).cells = ruleZ := by kernel_rfl
    rw [hz]
    intro i v hv
    rcases i with _ | _ | _ | _ | _ | i
    · simp at hv; subst hv; exact ⟨_, rfl, _, rfl, by decide⟩
    · simp at hv; subst hv; exact ⟨_, rfl, _, rfl⟩
    · simp at hv; subst hv; exact ⟨_, rfl, _, rfl, by decide⟩
    · simp at hv; subst hv; exact ⟨_, rfl, _, rfl, by decide, by decide⟩
    · simp at hv; subst hv; exact ⟨_, rfl, _, rfl, by decide, by decide⟩
    · simp at hv

theorem rule_per {P : Program} {χ : Chi} {S : Nat → Prop} {r : RV} (h : RVok r) : PerOK P χ S ruleC r.v := by
  intro i v hv
  simp only [RV.v] at hv
  rcases i with _ | _ | _ | _ | _ | i
  · simp at hv; subst hv; exact ⟨_, rfl, _, rfl, h.p⟩
  · simp at hv; subst hv; exact ⟨_, rfl, _, rfl⟩
  · simp at hv; subst hv; exact ⟨_, rfl, _, rfl, h.wi⟩
  · simp at hv; subst hv; exact ⟨_, rfl, _, rfl, h.pt⟩
  · simp at hv; subst hv; exact ⟨_, rfl, _, rfl, h.su⟩
  · simp at hv

end Go.Sx
