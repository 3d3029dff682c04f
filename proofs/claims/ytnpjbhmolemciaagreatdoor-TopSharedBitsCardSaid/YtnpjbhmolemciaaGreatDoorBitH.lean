/- Part BitH of a proof: helper lemmas; no conditions. -/
import Derived.Test.YtnpjbhmolemciaaGreatDoorHnB
import Derived.WalkKit
import Derived.Deep.LoopGhost

namespace Go.Sx
open Go Go.Proofs

noncomputable def cT9 : Contract := conOf Tryz.prog 2000 2000 false ((Tryz.prog.funcs[9]?).getD default)
noncomputable def cT32 : Contract := conOf Tryz.prog 2000 2000 false ((Tryz.prog.funcs[32]?).getD default)
theorem tau5 : tau Tryz.prog (.base 5) = [.int .u8 0 255] := by kernel_rfl

set_option maxRecDepth 100000 in
/-- Check, called -/
theorem check9 (h9 : FnOK Tryz.prog 9 cT9) {χ : Chi} {w : World} {ao : Option Addr} {l c : Nat} (hinv : Inv Tryz.prog χ w) (h1 : l ≤ 2000) (h2 : l ≤ c) (h3 : c ≤ CB) (hr : RowOK χ χ.A [.int .u8 0 255] ao c) :
    Calls Tryz.prog 9 #[.slice ao l c] w fun e w' => ∃ n : Int, -9223372036854775808 ≤ n ∧ n ≤ 9223372036854775807 ∧ e = .returned (.int .i64 n) ∧ w.grownBy w' none := by
  have e1 : cT9.iv = [some (0, 2000), some (0, 9223372036854775807)] := by kernel_rfl
  have e2 : cT9.params = [.pv (.one (.slice false (.base 5) (.v 0) (.v 1)))] := by kernel_rfl
  have e3 : cT9.pre = [.le (.v 0) (.v 1)] := by kernel_rfl
  have e4 : cT9.riv = [some (-9223372036854775808, 9223372036854775807)] := by kernel_rfl
  have e5 : cT9.res = .pv (.one (.int .i64 (.v 2))) := by kernel_rfl
  have e6 : cT9.gl = [] := by kernel_rfl
  have e7 : cT9.nv = 2 := by simp [Contract.nv, e1]
  have h3' := h3
  unfold CB at h3'
  have hi : ivOK (χ.withρ (fun i => if i = 0 then (l : Int) else (c : Int))).ρ 0 cT9.iv := by
    rw [e1]
    refine ⟨?_, ?_, trivial⟩
    · show (0 : Int) ≤ (if (0 : Nat) = 0 then (l : Int) else c) ∧ (if (0 : Nat) = 0 then (l : Int) else c) ≤ 2000
      simp; omega
    · show (0 : Int) ≤ (if (1 : Nat) = 0 then (l : Int) else c) ∧ (if (1 : Nat) = 0 then (l : Int) else c) ≤ 9223372036854775807
      simp; omega
  refine (shut_call h9 (χ := χ.withρ (fun i => if i = 0 then (l : Int) else (c : Int))) (hinv.withρ _) ?_ hi ?_ e6).mono ?_
  · rw [e2]
    refine ⟨⟨ao, l, c, rfl, by simp [T.ev, Chi.withρ, Chi.shut], by simp [T.ev, Chi.withρ, Chi.shut], h2, h3, ?_⟩, trivial⟩
    simp only [SE.ev, tau5]
    exact hr
  · rw [e3]
    exact ⟨by simp [Fm.holds, T.ev, Chi.withρ]; omega, trivial⟩
  · rintro e w' ⟨v, χ', rfl, hg, _, _, _, hv, hri, _⟩
    rw [e5] at hv
    rw [e4, e7] at hri
    exact ⟨_, hri.1.1, hri.1.2, by rw [hv]; rfl, hg⟩

set_option maxRecDepth 100000 in
set_option maxHeartbeats 3200000 in
theorem text32 {w : World} {ao : Option Addr} {n c : Nat} {u : Nat → Int} (hn : n ≤ 2000) (hu : NumsAt .u8 0 255 w ao n u)
    (h9 : ∀ w', w' = w → Calls Tryz.prog 9 #[.slice ao n c] w' fun e w' => ∃ n : Int, -9223372036854775808 ≤ n ∧ n ≤ 9223372036854775807 ∧ e = .returned (.int .i64 n) ∧ w.grownBy w' none) :
    Calls Tryz.prog 32 #[.slice ao n c] w fun e w' => ∃ (s : ByteArray) (m : Int), s.size ≤ 2000 ∧ -9223372036854775808 ≤ m ∧ m ≤ 9223372036854775807 ∧ e = .returned (.tuple #[.string s, .int .i64 m]) ∧ w.grownBy w' none := by
  go_enter Tryz.func32, Tryz.ntmps32
  go_wp2_with (first
    | (go_at_call 9
       refine (h9 _ rfl).mono ?_
       rintro e w1 ⟨m, hm0, hm1, rfl, hg1⟩
       have hb0 := bld_fresh w1))
  · go_ret2
    exact ⟨ByteArray.empty, m, by decide, hm0, hm1, rfl, hg1⟩
  · have hm : (m != 0) = false := by assumption
    simp only [hm]
    generalize hW : w1.alloc (.cells #[.pointer none, .slice none 0 0] 104) = w2 at *
    go_loopg [15] n (fun k q wr => ∃ j : Nat, j + k = n ∧ q = .int .i64 j ∧ BldIs w1.heap.size j w1 wr)
    case atStart => exact ⟨0, by simp, rfl, hb0⟩
    case round =>
      obtain ⟨j, hjk, rfl, hb⟩ := hrel
      cases gk with
      | zero =>
        have hil : decide (j < n) = false := by simp; omega
        obtain rfl : j = n := by omega
        go_wp2_with (first
          | (go_at_call 76
             refine (bld_string hb).mono ?_
             rintro e w3 ⟨s, hs, rfl, hg3⟩
             have hg13 := grown_trans hg1 hg3))
        go_ret2
        exact ⟨s, 0, by omega, by omega, by omega, rfl, hg13⟩
      | succ k =>
        have hil : decide (j < n) = true := by simp; omega
        have hlt : j < n := by omega
        have hi0 : (0 : Int) ≤ (j : Int) := by omega
        have hi1 : (j : Int) < (n : Int) := by omega
        have hi40 : (j : Int) ≤ 1099511627776 := by omega
        have hgr : w1.grownBy wr none := by obtain ⟨_, _, _, h⟩ := hb; exact h
        obtain ⟨b, o, rfl, hbl, hx, hx0, hx1⟩ := (hu.grown (grown_trans hg1 hgr)) j hlt
        have hw0 := wrap_range .u8 (48 + u j)
        clear hu
        go_wp2_with (first
          | (go_at_call 75
             refine (bld_byte hb (by omega) hw0.1 hw0.2).mono ?_
             rintro e w3 ⟨rfl, hb3⟩))
        go_roundg k <;> first | omega | exact ⟨j + 1, by omega, by go_num, hb3⟩

set_option maxRecDepth 100000 in
theorem hand32 (h9 : FnOK Tryz.prog 9 cT9) : FnOK Tryz.prog 32 cT32 := by
  have e1 : cT32.iv = [some (0, 2000), some (0, 9223372036854775807)] := by kernel_rfl
  have e2 : cT32.params = [.pv (.one (.slice false (.base 5) (.v 0) (.v 1)))] := by kernel_rfl
  have e4 : cT32.riv = [some (0, 2000), some (-9223372036854775808, 9223372036854775807)] := by kernel_rfl
  have e5 : cT32.res = .tup [.one (.str (.v 2)), .one (.int .i64 (.v 3))] := by kernel_rfl
  have e6 : cT32.post = [] := by kernel_rfl
  have e7 : cT32.nv = 2 := by simp [Contract.nv, e1]
  refine fnOK_plain fun χ w args hinv ha hi hp => ?_
  rw [e2] at ha
  rw [e1] at hi
  obtain ⟨args⟩ := args
  match args, ha with
  | [a], ⟨ha, _⟩ =>
    obtain ⟨ao, l, c, rfl, p1, p2, p3, p4, p5⟩ := ha
    simp only [T.ev] at p1 p2
    obtain ⟨i0, _⟩ := hi
    simp only [SE.ev, tau5] at p5
    obtain ⟨u, hu⟩ := nums_read hinv p5 p3
    have hl : l ≤ 2000 := by have := i0.2; omega
    refine (text32 hl hu (fun w' hw => by subst hw; exact check9 h9 hinv hl p3 p4 p5)).mono ?_
    rintro e w' ⟨s, m, hs, hm0, hm1, rfl, hg⟩
    refine ⟨_, [(s.size : Int), m], rfl, hg, ?_, ?_, ?_⟩
    · rw [e5, e7]
      refine ⟨_, rfl, ⟨s, rfl, ?_⟩, ?_, trivial⟩
      · show (s.size : Int) = rext χ.ρ 2 [(s.size : Int), m] 2
        simp [rext]
      · show Value.int .i64 m = Value.int .i64 (rext χ.ρ 2 [(s.size : Int), m] 3)
        simp [rext]
    · rw [e4, e7]
      refine ⟨?_, ?_, trivial⟩
      · simp [rext]; omega
      · simp [rext]; omega
    · rw [e6]; trivial

end Go.Sx
