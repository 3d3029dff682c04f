/- Part ThC of a proof: helper lemmas; no conditions. -/
import Derived.Test.YtnnaehcmchndmaaGreatDoorThA

set_option linter.unusedSimpArgs false
set_option linter.unusedVariables false

namespace Go.Sx
open Go Go.Proofs

set_option maxRecDepth 100000 in
set_option maxHeartbeats 1600000 in
theorem tmatch1_any {w : World} {r : RV} {s : ByteArray} {b1 b2 m : Nat} (h1 : w.cell? ⟨b1, 0, none⟩ = some (.string s)) (h2 : w.cell? ⟨b2, 0, none⟩ = some (.int .i64 (m : Int))) (hb1 : b1 < w.heap.size) (hb2 : b2 < w.heap.size) (hm : m ≤ s.size) (hs : s.size ≤ 1099511627776) :
    Calls Tryz.prog 290 #[.agg r.v, .pointer (some ⟨b1, 0, none⟩), .pointer (some ⟨b2, 0, none⟩)] w fun e w' => (∃ b, e = .returned (.bool b) ∧ (b = true → r.p.size ≤ s.size)) ∧ w.grownBy w' none := by
  obtain ⟨p, a, wi, pt, su⟩ := r
  unfold RV.v
  dsimp only
  have g1 := grown_alloc w (.cells #[.string p, .bool a, .string wi, .int .u16 pt, .int .u8 su] 324)
  have hE : (w.alloc (.cells #[.string p, .bool a, .string wi, .int .u16 pt, .int .u8 su] 324)).heap[w.heap.size]? = some (.cells #[.string p, .bool a, .string wi, .int .u16 pt, .int .u8 su] 324 (0, 0)) := by rw [alloc_get, if_pos rfl]
  have k1 := cell_grown h1 hb1 g1
  have k2 := cell_grown h2 hb2 g1
  have i0 : (0 : Int) ≤ (m : Int) := by omega
  have i1 : (m : Int) ≤ (s.size : Int) := by omega
  have i2 : m ≤ s.size := hm
  go_enter Tryz.func290, Tryz.ntmps290
  go_upto_region 1 with fail
  generalize w.alloc (.cells #[.string p, .bool a, .string wi, .int .u16 pt, .int .u8 su] 324) = w1 at *
  have c0 : w1.cell? ⟨w.heap.size, 0, none⟩ = some (.string p) := by rw [cell?_blk hE]; rfl
  go_region
  go_wp2
  go_ret
  refine ⟨⟨_, rfl, fun h => ?_⟩, grown_trans g1 (grown_drew0 _)⟩
  have h3 : p.toList = (s.extract 0 m).toList := by simpa using h
  have h4 : p.data.toList = (s.extract 0 m).data.toList := by rw [← ByteArray.toList_eq, ← ByteArray.toList_eq, h3]
  have h5 := congrArg List.length h4
  rw [Array.length_toList, Array.length_toList] at h5
  have h6 : (s.extract 0 m).data.size = (s.extract 0 m).size := rfl
  rw [h6, ByteArray.size_extract] at h5
  show p.data.size ≤ s.size
  omega

theorem tindex_any {w : World} {ao : Option Addr} {n c : Nat} {rs : Nat → RV} {f : FuncId} {caps : Array Value} {Q : Nat → Prop} (hn : n ≤ 1099511627776) (hr : RulesAt w ao n rs) (hcal : callable Tryz.prog f = true)
    (ht : ∀ w', w.grownBy w' none → ∀ i, i < n → Calls Tryz.prog f (#[.agg (rs i).v] ++ caps) w' fun e w'' => (∃ b, e = .returned (.bool b) ∧ (b = true → Q i)) ∧ w'.grownBy w'' none) :
    Calls Tryz.prog 289 #[.slice ao n c, .func (.func f) #[] caps] w fun e w' => (∃ r : Int, e = .returned (.int .i64 r) ∧ -1 ≤ r ∧ r < (n : Int) ∧ (0 ≤ r → Q r.toNat)) ∧ w.grownBy w' none := by
  obtain ⟨fn, hh, hbody, hname⟩ := callable_ok hcal
  have hcf := run_callFn hh hbody hname
  go_enter Tryz.func289, Tryz.ntmps289
  go_wp2
  go_loopg [8] n (fun k q wr => ∃ j : Nat, k + j = n ∧ q = .int .i64 (j : Int) ∧ w.grownBy wr none)
  case atStart => exact ⟨0, rfl, rfl, grown_refl _⟩
  case round =>
    obtain ⟨j, hjk, rfl, hg⟩ := hrel
    cases gk with
    | zero =>
      have hil : decide (j < n) = false := by simp; omega
      obtain rfl : j = n := by omega
      go_wp2
      exact bodyPost_ret (v := .int .i64 (-1)) (by simp [results, Tryz.results289, go_sem]) rfl ⟨⟨-1, rfl, by omega, by omega, fun h => by omega⟩, hg⟩
    | succ k =>
      have hlt : j < n := by omega
      have hil : decide (j < n) = true := by simp; omega
      have hi0 : (0 : Int) ≤ (j : Int) := by omega
      have hi1 : (j : Int) < (n : Int) := by omega
      have hi40 : (j : Int) ≤ 1099511627776 := by omega
      obtain ⟨hok, b, o, e4, hbl, q0, q1, q2, q3, q4⟩ := (hr.grown hg) j hlt
      have htest := ht wr hg j hlt
      unfold RV.v at htest
      clear ht hr
      go_wp2_with fail
      refine htest.mono ?_
      clear htest q0 q1 q2 q3 q4
      rintro e w2 ⟨⟨b, rfl, hb⟩, hg2⟩
      have hg3 := grown_trans hg hg2
      cases b with
      | true =>
        go_wp2_with fail
        exact bodyPost_ret (v := .int .i64 (j : Int)) (by simp [results, Tryz.results289, go_sem]) rfl ⟨⟨j, rfl, by omega, by omega, fun h => by rw [Int.toNat_natCast]; exact hb (by trivial)⟩, hg3⟩
      | false =>
        go_wp2_with fail
        rw [← e4]
        go_roundg k
        case measure => exact Nat.lt_succ_self k
        exact ⟨j + 1, by omega, rfl, hg3⟩

theorem tmatch1_cal : callable Tryz.prog 290 = true := by kernel_rfl

def MatchPost (w : World) (n : Nat) (rs : Nat → RV) (s : ByteArray) (e : Ending) (w' : World) : Prop := (∃ r : Int, e = .returned (.int .i64 r) ∧ -1 ≤ r ∧ r < (n : Int) ∧ (0 ≤ r → (rs r.toNat).p.size ≤ s.size)) ∧ w.grownBy w' none

set_option maxRecDepth 100000 in
set_option maxHeartbeats 1600000 in
theorem tmatch_any {w : World} {ao : Option Addr} {n c : Nat} {rs : Nat → RV} {s : ByteArray} (hn : n ≤ 1099511627776) (hr : RulesAt w ao n rs) (hs : s.size ≤ 1099511627776) :
    Calls Tryz.prog 215 #[.slice ao n c, .string s] w (MatchPost w n rs s) := by
  have hmf : ∀ (fn : Fn) (first cap : Array Value) (w : World), (Instr.makeFunc fn first cap).run Tryz.prog w = .ok (.func fn first cap) w := fun _ _ _ _ => rfl
  have g1 := grown_alloc w (.cells #[.string s] 9)
  have hE : (w.alloc (.cells #[.string s] 9)).heap[w.heap.size]? = some (.cells #[.string s] 9 (0, 0)) := by rw [alloc_get, if_pos rfl]
  have s1 := alloc_size w (.cells #[.string s] 9)
  go_enter Tryz.func215, Tryz.ntmps215
  go_upto_region 1 with fail
  generalize w.alloc (.cells #[.string s] 9) = w1 at *
  have hz3 : ∀ wx : World, (zeroValue 3).run Tryz.prog wx = .ok (.int .i64 0) wx := fun wx => by kernel_rfl
  have k0 : w1.cell? ⟨w.heap.size, 0, none⟩ = some (.string s) := by rw [cell?_blk hE]; rfl
  have hst := fun (wx : World) (z : Value) (v : Int) => store_fresh1 (P := Tryz.prog) (w := wx) (b := wx.heap.size) (E := 3) (z := z) (v := .int .i64 v) rfl rfl
  have g2 := grown_alloc w1 (.cells #[.int .i64 (s.size : Int)] 3)
  have hB0 : (w1.alloc (.cells #[.int .i64 (s.size : Int)] 3)).heap[w1.heap.size]? = some (.cells #[.int .i64 (s.size : Int)] 3 (0, 0)) := by rw [alloc_get, if_pos rfl]
  have hE1 := (g2.block _ (lt_of_blk hE) (by simp)).trans hE
  have g12 := grown_trans g1 g2
  go_wp2_with fail
  generalize w1.alloc (.cells #[.int .i64 (s.size : Int)] 3) = w2 at *
  go_loopg [5] (s.size + 1) (fun k q wr => ∃ B : Nat, q = .pointer (some ⟨B, 0, none⟩) ∧ wr.heap[B]? = some (.cells #[.int .i64 ((k : Int) - 1)] 3 (0, 0)) ∧ k ≤ s.size + 1 ∧ w.grownBy wr none ∧ wr.heap[w.heap.size]? = some (.cells #[.string s] 9 (0, 0)) ∧ w.heap.size + 1 ≤ B)
  case atStart => exact ⟨_, rfl, by rw [← s1, hB0]; simp, by omega, g12, hE1, by omega⟩
  case round =>
    clear hB0 hE1 g12 g2 k0
    obtain ⟨B, rfl, hB, hk, hg, hS, hge⟩ := hrel
    cases gk with
    | zero =>
      have kB : wr.cell? ⟨B, 0, none⟩ = some (.int .i64 (-1)) := by rw [cell?_blk hB]; rfl
      go_wp2
      exact bodyPost_ret (v := .int .i64 (-1)) (by simp [results, Tryz.results215, go_sem]) rfl ⟨⟨-1, rfl, by omega, by omega, fun h => by omega⟩, hg⟩
    | succ k =>
      have hkk : (((k + 1 : Nat) : Int) - 1) = (k : Int) := by omega
      rw [hkk] at hB
      have kB : wr.cell? ⟨B, 0, none⟩ = some (.int .i64 (k : Int)) := by rw [cell?_blk hB]; rfl
      have kS : wr.cell? ⟨w.heap.size, 0, none⟩ = some (.string s) := by rw [cell?_blk hS]; rfl
      have hlB := lt_of_blk hB
      have hlS := lt_of_blk hS
      have i0 : decide ((0 : Int) ≤ (k : Int)) = true := by simp
      have hix := tindex_any (w := wr) (c := c) (caps := #[.pointer (some ⟨w.heap.size, 0, none⟩), .pointer (some ⟨B, 0, none⟩)]) (Q := fun i => (rs i).p.size ≤ s.size) hn (hr.grown hg) tmatch1_cal
        (fun w' hg' i hi => tmatch1_any (m := k) (cell_grown kS hlS hg') (cell_grown kB hlB hg') (Nat.lt_of_lt_of_le hlS hg'.size) (Nat.lt_of_lt_of_le hlB hg'.size) (by omega) hs)
      go_wp2_with fail
      refine hix.mono ?_
      clear hix
      rintro e w3 ⟨⟨r, rfl, r0, r1, hQ⟩, hg3⟩
      have hg4 := grown_trans hg hg3
      have kB3 := cell_grown kB hlB hg3
      have hS3 := (hg3.block _ hlS (by simp)).trans hS
      clear kB kS hB hS
      by_cases hr0 : 0 ≤ r
      · have hrb : decide (0 ≤ r) = true := by simpa using hr0
        go_wp2
        exact bodyPost_ret (v := .int .i64 r) (by simp [results, Tryz.results215, go_sem]) rfl ⟨⟨r, rfl, r0, r1, hQ⟩, hg4⟩
      · have hrb : decide (0 ≤ r) = false := by simpa using hr0
        have hB4 : (w3.alloc (.cells #[.int .i64 ((k : Int) - 1)] 3)).heap[w3.heap.size]? = some (.cells #[.int .i64 ((k : Int) - 1)] 3 (0, 0)) := by rw [alloc_get, if_pos rfl]
        have hg5 := grown_trans hg4 (grown_alloc w3 (.cells #[.int .i64 ((k : Int) - 1)] 3))
        have hS4 := ((grown_alloc w3 (.cells #[.int .i64 ((k : Int) - 1)] 3)).block _ (lt_of_blk hS3) (by simp)).trans hS3
        have hl3 := hg4.size
        have hsz3 := hg3.size
        have hk1 : IntKind.i64.wrap ((k : Int) - 1) = (k : Int) - 1 := wrap_id (by show (-9223372036854775808 : Int) ≤ _; omega) (by show _ ≤ (9223372036854775807 : Int); omega)
        have hck : (w3.alloc (.cells #[.int .i64 (k : Int)] 3)).cell? ⟨w3.heap.size, 0, none⟩ = some (.int .i64 (k : Int)) := by rw [cell?_blk (show (w3.alloc (.cells #[.int .i64 (k : Int)] 3)).heap[w3.heap.size]? = some (.cells #[.int .i64 (k : Int)] 3 (0, 0)) by rw [alloc_get, if_pos rfl])]; rfl
        go_wp2
        go_roundg k
        case measure => exact Nat.lt_succ_self k
        exact ⟨_, rfl, hB4, by omega, hg5, hS4, by omega⟩

end Go.Sx
