/- Part BitI of a proof: helper lemmas; no conditions. -/
import Derived.Test.YtnpjbhmolemciaaGreatDoorBitH
import Derived.Test.YtnpjbhmolemciaaGreatDoorHnC

namespace Go.Sx
open Go Go.Proofs

theorem tau3 : tau Tryz.prog (.base 3) = [.int .i64 (-9223372036854775808) 9223372036854775807] := by kernel_rfl

/-- what a test of one number, called, answers -/
def NumTest (P : Program) (w : World) (f : Nat) (caps : Array Value) (p : Int → Bool) : Prop :=
  callable P f = true ∧ ∀ w', w.grownBy w' none → ∀ x : Int, Calls P f (#[.int .i64 x] ++ caps) w' fun e w'' => e = .returned (.bool (p x)) ∧ w'.grownBy w'' none

def flipOut (n : Nat) (x : Int) : Bool := decide (x < 0) || decide ((n : Int) ≤ x)

set_option maxRecDepth 100000 in
set_option maxHeartbeats 1600000 in
theorem test71 {w : World} {tb n c : Nat} {ao : Option Addr} (htb : tb < w.heap.size) (hc : w.cell? ⟨tb, 0, none⟩ = some (.slice ao n c)) : NumTest Tryz.prog w 71 #[.pointer (some ⟨tb, 0, none⟩)] (flipOut n) := by
  refine ⟨by kernel_rfl, fun w' hg x => ?_⟩
  have hc' := cell_grown hc htb hg
  clear hc
  show Calls Tryz.prog 71 #[.int .i64 x, .pointer (some ⟨tb, 0, none⟩)] w' _
  by_cases h0 : x < 0
  · have hil : decide (x < 0) = true := by simp; omega
    have hU : flipOut n x = true := by simp [flipOut, h0]
    rw [hU]
    go_enter Tryz.func71, Tryz.ntmps71
    go_wp2
    go_ret
    exact ⟨rfl, grown_refl _⟩
  · have hil : decide (x < 0) = false := by simp; omega
    have hU : flipOut n x = decide ((n : Int) ≤ x) := by simp [flipOut, h0]
    rw [hU]
    go_enter Tryz.func71, Tryz.ntmps71
    go_wp2
    go_ret
    exact ⟨rfl, grown_refl _⟩

set_option maxRecDepth 100000 in
set_option maxHeartbeats 3200000 in
theorem index95 {w : World} {ao : Option Addr} {n c f : Nat} {x : Nat → Int} {p : Int → Bool} {caps : Array Value} {lo hi : Int} (hn : n ≤ 1099511627776) (hx : NumsAt .i64 lo hi w ao n x) (ht : NumTest Tryz.prog w f caps p) :
    Calls Tryz.prog 95 #[.slice ao n c, .func (.func f) #[] caps] w fun e w' => ∃ r : Int, e = .returned (.int .i64 r) ∧ w.grownBy w' none ∧ (r < 0 → ∀ i, i < n → p (x i) = false) := by
  obtain ⟨hcal, ht⟩ := ht
  obtain ⟨fn, hh, hbody, hname⟩ := callable_ok hcal
  have hcf := run_callFn hh hbody hname
  go_enter Tryz.func95, Tryz.ntmps95
  go_wp2
  go_loopg [8] n (fun k q wr => ∃ j : Nat, j + k = n ∧ q = .int .i64 j ∧ w.grownBy wr none ∧ ∀ i, i < j → p (x i) = false)
  case atStart => exact ⟨0, by simp, rfl, grown_refl _, fun i h => by omega⟩
  case round =>
    obtain ⟨j, hjk, rfl, hg, hall⟩ := hrel
    cases gk with
    | zero =>
      have hil : decide (j < n) = false := by simp; omega
      obtain rfl : j = n := by omega
      have HA := Lib.hid hall
      clear hall ht
      go_wp2
      go_ret
      exact ⟨-1, rfl, hg, fun _ => HA.out⟩
    | succ k =>
      have hil : decide (j < n) = true := by simp; omega
      have hlt : j < n := by omega
      have hi0 : (0 : Int) ≤ (j : Int) := by omega
      have hi1 : (j : Int) < (n : Int) := by omega
      have hi40 : (j : Int) ≤ 1099511627776 := by omega
      obtain ⟨b, o, rfl, hb, hx0, _, _⟩ := hx j hlt
      have hxj := cell_grown hx0 hb hg
      have htest := ht wr hg (x j)
      have HA := Lib.hid hall
      clear hx ht hall hx0
      generalize hp : p (x j) = pj at htest
      go_wp2_with (first
        | (refine htest.mono ?_
           clear htest
           rintro e w2 ⟨rfl, hg2⟩
           have hg3 := grown_trans hg hg2))
      · go_ret
        exact ⟨j, rfl, hg3, fun h => by omega⟩
      · have hpj : p (x j) = false := by simp_all
        have hall2 : ∀ i, i < j + 1 → p (x i) = false := fun i hi => by
          rcases Nat.lt_or_ge i j with h | h
          · exact HA.out i h
          · obtain rfl : i = j := by omega
            exact hpj
        have HB := Lib.hid hall2
        clear hall2
        go_roundg k <;> first | omega | exact ⟨j + 1, by omega, by go_num, hg3, HB.out⟩

theorem contains70 {w : World} {ao : Option Addr} {n c f : Nat} {x : Nat → Int} {p : Int → Bool} {caps : Array Value} {lo hi : Int} (hn : n ≤ 1099511627776) (hx : NumsAt .i64 lo hi w ao n x) (ht : NumTest Tryz.prog w f caps p) :
    Calls Tryz.prog 70 #[.slice ao n c, .func (.func f) #[] caps] w fun e w' => ∃ r : Bool, e = .returned (.bool r) ∧ w.grownBy w' none ∧ (r = false → ∀ i, i < n → p (x i) = false) := by
  have h1 := index95 (c := c) hn hx ht
  go_enter Tryz.func70, Tryz.ntmps70
  go_wp2_with (first
    | (go_at_call 95
       refine h1.mono ?_
       clear h1 hx ht
       rintro e w2 ⟨r, rfl, hg2, hall⟩
       have HA := Lib.hid hall
       clear hall))
  go_ret
  exact ⟨_, rfl, hg2, fun h => HA.out (by simpa using h)⟩

end Go.Sx
