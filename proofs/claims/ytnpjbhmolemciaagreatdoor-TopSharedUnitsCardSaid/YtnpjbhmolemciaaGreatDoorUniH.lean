/- Part UniH of a proof: helper lemmas; no conditions. -/
import Derived.Test.YtnpjbhmolemciaaGreatDoorHnB
import Derived.Test.YtnpjbhmolemciaaGreatDoorHnC
import Derived.Test.YtnpjbhmolemciaaGreatDoorHnI
import Derived.WalkKit
import Derived.Deep.LoopGhost

set_option linter.unusedSimpArgs false
set_option linter.unusedVariables false

namespace Go.Sx
open Go Go.Proofs

theorem u8_le (x : UInt8) : (x.toNat : Int) ≤ 255 := by have := x.toNat_lt; omega

set_option maxRecDepth 100000 in
set_option maxHeartbeats 3200000 in
theorem written92 {w : World} {ao : Option Addr} {n c : Nat} {u : Nat → Int} (hn : n ≤ 2000) (hu : NumsAt .u8 0 255 w ao n u) :
    Calls Tryz.prog 92 #[.slice ao n c] w fun e w' => ∃ (s : ByteArray), s.size ≤ 4000 ∧ e = .returned (.string s) ∧ w.grownBy w' none := by
  have hb0 := bld_fresh w
  go_enter Tryz.func92, Tryz.ntmps92
  go_wp2_with fail
  generalize hW : w.alloc (.cells #[.pointer none, .slice none 0 0] 104) = w2 at *
  go_loopg [8] n (fun k q wr => ∃ j : Nat, j + k = n ∧ q = .int .i64 j ∧ BldIs w.heap.size (2 * j) w wr)
  case atStart => exact ⟨0, by simp, rfl, hb0⟩
  case round =>
    obtain ⟨j, hjk, rfl, hb⟩ := hrel
    cases gk with
    | zero =>
      have hil : decide (j < n) = false := by simp; omega
      obtain rfl : j = n := by omega
      go_wp2_with (first
        | (go_at_call 76
           refine (bld_string hb).mono ?_
           rintro e w3 ⟨s, hs, rfl, hg3⟩))
      go_ret
      exact ⟨s, by omega, rfl, hg3⟩
    | succ k =>
      have hil : decide (j < n) = true := by simp; omega
      have hlt : j < n := by omega
      have hi0 : (0 : Int) ≤ (j : Int) := by omega
      have hi1 : (j : Int) < (n : Int) := by omega
      have hi40 : (j : Int) ≤ 1099511627776 := by omega
      have hgr : w.grownBy wr none := by obtain ⟨_, _, _, h⟩ := hb; exact h
      obtain ⟨b, o, rfl, hbl, hx, hx0, hx1⟩ := (hu.grown hgr) j hlt
      clear hu
      have hd0 : 0 ≤ u j / 16 := by omega
      have hd1 : u j / 16 < 16 := by omega
      have hm0 : 0 ≤ u j % 16 := by omega
      have hm1 : u j % 16 < 16 := by omega
      go_wp2_with fail
      go_at_call 75
      refine (bld_byte hb (by omega) (Int.natCast_nonneg _) (u8_le _)).mono ?_
      rintro e w3 ⟨rfl, hb3⟩
      clear hb
      go_wp2_with fail
      go_at_call 75
      refine (bld_byte hb3 (by omega) (Int.natCast_nonneg _) (u8_le _)).mono ?_
      rintro e w4 ⟨rfl, hb4⟩
      have hb5 : BldIs w.heap.size (2 * (j + 1)) w w4 := by rw [show 2 * (j + 1) = 2 * j + 1 + 1 by omega]; exact hb4
      clear hb3 hb4
      go_wp2
      go_roundg k <;> first | omega | exact ⟨j + 1, by omega, by go_num, hb5⟩

noncomputable def cT92 : Contract := { conOf Tryz.prog 2000 4000 false ((Tryz.prog.funcs[92]?).getD default) with gl := [(0, tabC)] }
theorem tau5 : tau Tryz.prog (.base 5) = [.int .u8 0 255] := by kernel_rfl

set_option maxRecDepth 100000 in
theorem hand92 : FnOK Tryz.prog 92 cT92 := by
  have e1 : cT92.iv = [some (0, 2000), some (0, 9223372036854775807)] := by kernel_rfl
  have e2 : cT92.params = [.pv (.one (.slice false (.base 5) (.v 0) (.v 1)))] := by kernel_rfl
  have e4 : cT92.riv = [some (0, 4000)] := by kernel_rfl
  have e5 : cT92.res = .pv (.one (.str (.v 2))) := by kernel_rfl
  have e6 : cT92.post = [] := by kernel_rfl
  have e7 : cT92.nv = 2 := by simp [Contract.nv, e1]
  refine fnOK_plain fun χ w args hinv ha hi hp => ?_
  rw [e2] at ha
  rw [e1] at hi
  obtain ⟨args⟩ := args
  match args, ha with
  | [a], ⟨ha, _⟩ =>
    obtain ⟨ao, l, c, rfl, p1, p2, p3, p4, p5⟩ := ha
    simp only [T.ev] at p1 p2
    obtain ⟨i0, _⟩ := hi
    simp only [SE.ev, tau5] at p5
    obtain ⟨u, hu⟩ := nums_read hinv p5 p3
    have hl : l ≤ 2000 := by have := i0.2; omega
    refine (written92 hl hu).mono ?_
    rintro e w' ⟨s, hs, rfl, hg⟩
    refine ⟨_, [(s.size : Int)], rfl, hg, ?_, ?_, ?_⟩
    · rw [e5, e7]
      refine ⟨s, rfl, ?_⟩
      show (s.size : Int) = rext χ.ρ 2 [(s.size : Int)] 2
      simp [rext]
    · rw [e4, e7]
      refine ⟨?_, trivial⟩
      simp [rext]; omega
    · rw [e6]; trivial

end Go.Sx


