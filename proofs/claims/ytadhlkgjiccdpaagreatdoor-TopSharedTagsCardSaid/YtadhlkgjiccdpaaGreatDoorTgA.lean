/- Part TgA of a proof: helper lemmas; no conditions. -/
import Derived.Test.YtadhlkgjiccdpaaGreatDoorHnA
import Derived.Test.YtadhlkgjiccdpaaGreatDoorHnC
import Derived.Test.YtadhlkgjiccdpaaGreatDoorProg
import Derived.WalkSmall
import Derived.WalkKit
import Derived.Deep.LoopGhost

set_option linter.unusedSimpArgs false
set_option linter.unusedVariables false

namespace Go.Sx
open Go Go.Proofs

def oct : List CT := [.int .u8 0 255]

structure Dec (χ : Chi) (w : World) (D : Nat) (ao : Option Addr) (l c : Nat) (cnt : Int) : Prop where
  inv : Inv Tryz.prog χ w
  nA : ¬ χ.A D
  at_ : w.heap[D]? = some (.cells #[.slice ao l c, .int .i64 cnt] 187 (0, 0))
  lc : l ≤ c
  cc : c ≤ CB
  ll : l ≤ 65536
  cn : 0 ≤ cnt ∧ cnt ≤ 2000
  row : RowOK χ χ.A oct ao c

theorem Dec.c0 {χ : Chi} {w : World} {D : Nat} {ao : Option Addr} {l c : Nat} {cnt : Int} (h : Dec χ w D ao l c cnt) : w.cell? ⟨D, 0, none⟩ = some (.slice ao l c) := by rw [cell?_blk h.at_]; rfl
theorem Dec.c1 {χ : Chi} {w : World} {D : Nat} {ao : Option Addr} {l c : Nat} {cnt : Int} (h : Dec χ w D ao l c cnt) : w.cell? ⟨D, 1, none⟩ = some (.int .i64 cnt) := by rw [cell?_blk h.at_]; rfl
theorem Dec.f {χ : Chi} {w : World} {D : Nat} {ao : Option Addr} {l c : Nat} {cnt : Int} (h : Dec χ w D ao l c cnt) (i : Nat) : w.frozen? ⟨D, i, none⟩ = false := by rw [frozen?_blk h.at_]; simp
theorem Dec.lt {χ : Chi} {w : World} {D : Nat} {ao : Option Addr} {l c : Nat} {cnt : Int} (h : Dec χ w D ao l c cnt) : D < w.heap.size := lt_of_blk h.at_

theorem grown_some {w w' : World} {D : Nat} (h : w.grownBy w' none) : w.grownBy w' (some D) := ⟨h.os, h.tape, h.output, h.size, fun k hk _ => h.block k hk (by simp)⟩
theorem grown_transD {a b c : World} {D : Nat} (h : a.grownBy b (some D)) (k : b.grownBy c (some D)) : a.grownBy c (some D) :=
  ⟨k.os.trans h.os, k.tape.trans h.tape, k.output.trans h.output, Nat.le_trans h.size k.size, fun i hi hn => (k.block i (Nat.lt_of_lt_of_le hi h.size) hn).trans (h.block i hi hn)⟩
theorem inv_grownD {P : Program} {χ : Chi} {w w' : World} {D : Nat} (hi : Inv P χ w) (hn : ¬ χ.A D) (h : w.grownBy w' (some D)) : Inv P χ w' :=
  hi.same fun b hb => h.block b (hi.lt hb) (fun e => by cases e; exact hn hb)

theorem Dec.put {χ : Chi} {w : World} {D : Nat} {ao : Option Addr} {l c : Nat} {cnt : Int} (h : Dec χ w D ao l c cnt) {ao' : Option Addr} {l' c' : Nat} (h1 : l' ≤ c') (h2 : c' ≤ CB) (h3 : l' ≤ 65536) (h4 : RowOK χ χ.A oct ao' c') :
    Dec χ (w.setCell ⟨D, 0, none⟩ (.slice ao' l' c')) D ao' l' c' cnt ∧ w.grownBy (w.setCell ⟨D, 0, none⟩ (.slice ao' l' c')) (some D) := by
  have hlt := h.lt
  have hg : w.grownBy (w.setCell ⟨D, 0, none⟩ (.slice ao' l' c')) (some D) := by
    rw [setCell_blk h.at_]
    exact ⟨rfl, rfl, rfl, by rw [setBlk_size]; exact Nat.le_refl _, fun k hk hn => by rw [setBlk_get hlt, if_neg (fun e => hn (by rw [e]))]⟩
  refine ⟨⟨inv_grownD h.inv h.nA hg, h.nA, ?_, h1, h2, h3, h.cn, h4⟩, hg⟩
  rw [setCell_blk h.at_, setBlk_get hlt, if_pos rfl]
  rfl

theorem Dec.putN {χ : Chi} {w : World} {D : Nat} {ao : Option Addr} {l c : Nat} {cnt : Int} (h : Dec χ w D ao l c cnt) {n : Int} (hn : 0 ≤ n ∧ n ≤ 2000) :
    Dec χ (w.setCell ⟨D, 1, none⟩ (.int .i64 n)) D ao l c n ∧ w.grownBy (w.setCell ⟨D, 1, none⟩ (.int .i64 n)) (some D) := by
  have hlt := h.lt
  have hg : w.grownBy (w.setCell ⟨D, 1, none⟩ (.int .i64 n)) (some D) := by
    rw [setCell_blk h.at_]
    exact ⟨rfl, rfl, rfl, by rw [setBlk_size]; exact Nat.le_refl _, fun k hk hn => by rw [setBlk_get hlt, if_neg (fun e => hn (by rw [e]))]⟩
  refine ⟨⟨inv_grownD h.inv h.nA hg, h.nA, ?_, h.lc, h.cc, h.ll, hn, h.row⟩, hg⟩
  rw [setCell_blk h.at_, setBlk_get hlt, if_pos rfl]
  rfl

theorem Dec.grown {χ : Chi} {w w' : World} {D : Nat} {ao : Option Addr} {l c : Nat} {cnt : Int} (h : Dec χ w D ao l c cnt) (hg : w.grownBy w' none) : Dec χ w' D ao l c cnt :=
  ⟨inv_grownD h.inv h.nA (grown_some hg), h.nA, (hg.block D h.lt (by simp)).trans h.at_, h.lc, h.cc, h.ll, h.cn, h.row⟩

def Raised (e : Ending) : Prop := ∃ n : Int, -9223372036854775808 ≤ n ∧ n ≤ 9223372036854775807 ∧ e = .panicked [{ v := .iface 36 (.int .i64 n), recovered := false }]

theorem raised_mk {n : Int} (h0 : -9223372036854775808 ≤ n) (h1 : n ≤ 9223372036854775807) : Raised (.panicked [{ v := .iface 36 (.int .i64 n), recovered := false }]) := ⟨n, h0, h1, rfl⟩

theorem must_yes (w : World) (n : Int) : Calls Tryz.prog 163 #[.bool true, .int .i64 n] w fun e w' => e = .returned (.tuple #[]) ∧ w' = w := by
  go_enter Tryz.func163, Tryz.ntmps163
  go_wp2
  go_end0
  exact ⟨rfl, rfl⟩

theorem must_no (w : World) (n : Int) : Calls Tryz.prog 163 #[.bool false, .int .i64 n] w fun e w' => e = .panicked [{ v := .iface 36 (.int .i64 n), recovered := false }] ∧ w' = w := by
  go_enter Tryz.func163, Tryz.ntmps163
  go_wp2
  exact ⟨rfl, rfl, rfl⟩

def MustPost (b : Bool) (w : World) (e : Ending) (w' : World) : Prop := w' = w ∧ ((b = true ∧ e = .returned (.tuple #[])) ∨ (b = false ∧ Raised e))
theorem must_any (w : World) (b : Bool) {n : Int} (h0 : -9223372036854775808 ≤ n) (h1 : n ≤ 9223372036854775807) : Calls Tryz.prog 163 #[.bool b, .int .i64 n] w (MustPost b w) := by
  cases b with
  | true => exact (must_yes w n).mono fun e w' ⟨h, k⟩ => ⟨k, .inl ⟨rfl, h⟩⟩
  | false => exact (must_no w n).mono fun e w' ⟨h, k⟩ => ⟨k, .inr ⟨rfl, n, h0, h1, h⟩⟩

theorem oct_cut {χ : Chi} {ao : Option Addr} {c n : Nat} (h : RowOK χ χ.A oct ao c) (hn : n ≤ c) : RowOK χ χ.A oct (if c = n then ao else ao.map (·.add n)) (c - n) := by
  have := RowOK.cut (sz := 1) rfl h hn (Nat.le_refl c)
  simpa using this

def TakePost (χ : Chi) (w : World) (D : Nat) (ao : Option Addr) (l c : Nat) (cnt : Int) (n : Nat) (e : Ending) (w' : World) : Prop :=
  w.grownBy w' (some D) ∧ ((n ≤ l ∧ e = .returned (.slice ao n c) ∧ ∃ ao', Dec χ w' D ao' (l - n) (c - n) cnt) ∨ Raised e)

set_option maxRecDepth 100000 in
theorem take_any {χ : Chi} {w : World} {D : Nat} {ao : Option Addr} {l c n : Nat} {cnt : Int} (h : Dec χ w D ao l c cnt) (hn : n ≤ 1099511627776) :
    Calls Tryz.prog 168 #[.pointer (some ⟨D, 0, none⟩), .int .i64 (n : Int)] w (TakePost χ w D ao l c cnt n) := by
  have hd0 := h.c0
  have hdf := h.f 0
  have hlc := h.lc
  by_cases hnl : n ≤ l
  · have hil : decide ((l : Int) < (n : Int)) = false := by simp; omega
    have hil2 : ¬ (l : Int) < (n : Int) := by omega
    have hil3 : decide (l < n) = false := by simp; omega
    have hn0 : (0 : Int) ≤ (n : Int) := by omega
    have hn1 : (n : Int) ≤ (l : Int) := by omega
    have hn2 : (n : Int) ≤ (c : Int) := by omega
    have hcut := oct_cut h.row (show n ≤ c by omega)
    by_cases hcn : c = n
    · rw [if_pos hcn] at hcut
      obtain ⟨k1, k2⟩ := h.put (ao' := ao) (l' := l - n) (c' := c - n) (by omega) (by have := h.cc; omega) (by have := h.ll; omega) hcut
      have e0 : c - n = 0 := by omega
      rw [e0] at k1 k2
      have K1 := Lib.hid k1
      have K2 := Lib.hid k2
      have HE := Lib.hid hcn
      clear h hcut k1 k2
      go_enter Tryz.func168, Tryz.ntmps168
      go_wp2
      all_goals first
        | omega
        | (go_ret
           refine ⟨K2.out, .inl ⟨hnl, rfl, ao, ?_⟩⟩
           first
           | (rw [e0]; exact K1.out)
           | (rw [Nat.sub_self]; exact K1.out))
    · rw [if_neg hcn] at hcut
      obtain ⟨k1, k2⟩ := h.put (ao' := ao.map (·.add n)) (l' := l - n) (c' := c - n) (by omega) (by have := h.cc; omega) (by have := h.ll; omega) hcut
      have K1 := Lib.hid k1
      have K2 := Lib.hid k2
      clear h hcut k1 k2
      go_enter Tryz.func168, Tryz.ntmps168
      go_wp2
      all_goals first
        | (exfalso; apply hcn; assumption)
        | (go_ret
           exact ⟨K2.out, .inl ⟨hnl, rfl, _, K1.out⟩⟩)
  · have hil : decide ((l : Int) < (n : Int)) = true := by simp; omega
    have hil2 : (l : Int) < (n : Int) := by omega
    have hil3 : decide (l < n) = true := by simp; omega
    clear h
    go_enter Tryz.func168, Tryz.ntmps168
    go_wp2
    exact ⟨rfl, grown_some (grown_refl _), .inr (raised_mk (by omega) (by omega))⟩

end Go.Sx

namespace Go.Sx
open Go Go.Proofs

def NextPost (χ : Chi) (w : World) (D : Nat) (l c : Nat) (cnt : Int) (e : Ending) (w' : World) : Prop :=
  w.grownBy w' (some D) ∧ ((1 ≤ l ∧ ∃ (x : Int) (ao' : Option Addr), 0 ≤ x ∧ x ≤ 255 ∧ e = .returned (.int .u8 x) ∧ Dec χ w' D ao' (l - 1) (c - 1) cnt) ∨ Raised e)

set_option maxRecDepth 100000 in
theorem next_any {χ : Chi} {w : World} {D : Nat} {ao : Option Addr} {l c : Nat} {cnt : Int} (h : Dec χ w D ao l c cnt) :
    Calls Tryz.prog 164 #[.pointer (some ⟨D, 0, none⟩)] w (NextPost χ w D l c cnt) := by
  have htake := take_any (n := 1) h (by omega)
  by_cases hl : 1 ≤ l
  · obtain ⟨b, o, rfl, hb, hr⟩ := row_read (l := 1) (i := 0) h.inv h.row (by have := h.lc; omega) (by omega) (by decide)
    obtain ⟨v, hv, x, rfl, hx0, hx1⟩ := hr 0 _ rfl
    have hbD : b ≠ D := fun e => h.nA (by rw [← e]; exact h.row.2.1)
    simp only [Nat.zero_mul, Nat.add_zero] at hv
    have HL := Lib.hid hl
    clear h hr hl
    go_enter Tryz.func164, Tryz.ntmps164
    go_wp2_with fail
    go_at_call 168
    refine htake.mono ?_
    clear htake
    rintro e w1 ⟨hg, (⟨_, rfl, ao', hd⟩ | hR)⟩
    · have hv1 := (World.cell?_of_block (a := ⟨b, o, none⟩) (hg.block b hb (fun e => hbD (by cases e; rfl)))).trans hv
      clear hv
      go_wp2
      go_ret
      exact ⟨hg, .inl ⟨HL.out, x, ao', hx0, hx1, rfl, hd⟩⟩
    · obtain ⟨n, n0, n1, rfl⟩ := hR
      exact ⟨rfl, hg, .inr (raised_mk n0 n1)⟩
  · clear h
    go_enter Tryz.func164, Tryz.ntmps164
    go_wp2_with fail
    go_at_call 168
    refine htake.mono ?_
    clear htake
    rintro e w1 ⟨hg, (⟨h1, _⟩ | hR)⟩
    · exact absurd h1 hl
    · obtain ⟨n, n0, n1, rfl⟩ := hR
      exact ⟨rfl, hg, .inr (raised_mk n0 n1)⟩

theorem bits_or_u32 (a b : Int) : 0 ≤ bits BinOp.or .u32 a b ∧ bits BinOp.or .u32 a b ≤ 4294967295 := wrap_range .u32 _

def NumberPost (χ : Chi) (w : World) (D : Nat) (l : Nat) (cnt : Int) (e : Ending) (w' : World) : Prop :=
  w.grownBy w' (some D) ∧ ((∃ (x : Int) (ao' : Option Addr) (l' c' : Nat), 0 ≤ x ∧ x ≤ 4294967295 ∧ e = .returned (.int .u32 x) ∧ l' ≤ l ∧ Dec χ w' D ao' l' c' cnt) ∨ Raised e)

set_option maxRecDepth 100000 in
set_option maxHeartbeats 3200000 in
theorem number_any {χ : Chi} {w : World} {D : Nat} {ao : Option Addr} {l c : Nat} {cnt : Int} (h : Dec χ w D ao l c cnt) :
    Calls Tryz.prog 165 #[.pointer (some ⟨D, 0, none⟩)] w (NumberPost χ w D l cnt) := by
  go_enter Tryz.func165, Tryz.ntmps165
  go_wp2
  go_loopg [3, 4] (l + 1) (fun k p q wr => ∃ (l' c' : Nat) (ao' : Option Addr) (n : Int) (b : Bool), k = l' + 1 ∧ l' ≤ l ∧ p = .int .u32 n ∧ q = .bool b ∧ 0 ≤ n ∧ n ≤ 2097151 ∧ w.grownBy wr (some D) ∧ Dec χ wr D ao' l' c' cnt)
  case atStart => exact ⟨l, c, ao, 0, true, rfl, Nat.le_refl _, rfl, rfl, by omega, by omega, grown_some (grown_refl _), h⟩
  case round =>
    obtain ⟨l', c', ao', n, b, hk, hl', rfl, rfl, hn0, hn1, hg, hd⟩ := hrel
    cases gk with
    | zero => omega
    | succ k =>
      have hnext := next_any hd
      clear h
      go_wp2_with fail
      go_at_call 164
      refine hnext.mono ?_
      clear hnext hd
      rintro e w1 ⟨hg1, (⟨h1, x, ao1, hx0, hx1, rfl, hd1⟩ | hR)⟩
      · have hg2 := grown_transD hg hg1
        go_wp2_with fail
        all_goals
          refine (must_any _ _ (by omega) (by omega)).mono ?_
          rintro e w2 ⟨rfl, (⟨hb1, rfl⟩ | ⟨hb1, hR⟩)⟩
          rotate_left
          · obtain ⟨n, n0, n1, rfl⟩ := hR
            exact ⟨rfl, hg2, .inr (raised_mk n0 n1)⟩
          have HB := Lib.hid hb1
          clear hb1
          go_wp2_with fail
          have hy := bits_or_u32 (n * 128) (bits BinOp.and IntKind.u8 x 127 % 4294967296)
          generalize bits BinOp.or IntKind.u32 (n * 128) (bits BinOp.and IntKind.u8 x 127 % 4294967296) = y at *
          obtain ⟨hy0, hy1⟩ := hy
          refine (must_any _ _ (by omega) (by omega)).mono ?_
          rintro e w2 ⟨rfl, (⟨hb2, rfl⟩ | ⟨hb2, hR⟩)⟩
          rotate_left
          · obtain ⟨n, n0, n1, rfl⟩ := hR
            exact ⟨rfl, hg2, .inr (raised_mk n0 n1)⟩
          have hy2 : y ≤ 2097151 := by simpa using hb2
          clear hb2
          go_wp2_with fail
          · refine (must_any _ _ (by omega) (by omega)).mono ?_
            rintro e w2 ⟨rfl, (⟨hb3, rfl⟩ | ⟨hb3, hR⟩)⟩
            rotate_left
            · obtain ⟨n, n0, n1, rfl⟩ := hR
              exact ⟨rfl, hg2, .inr (raised_mk n0 n1)⟩
            clear hb3
            go_wp2
            go_ret
            exact ⟨hg2, .inl ⟨y, _, _, _, hy0, hy1, rfl, by omega, hd1⟩⟩
          · go_roundg k <;> first | omega | exact ⟨l' - 1, c' - 1, ao1, y, false, by omega, by omega, rfl, rfl, hy0, hy2, hg2, hd1⟩
      · obtain ⟨n, n0, n1, rfl⟩ := hR
        exact ⟨rfl, grown_transD hg hg1, .inr (raised_mk n0 n1)⟩

theorem i64_or_small {a b : Int} (h0 : 0 ≤ a) (h1 : a < 1099511627776) (h2 : 0 ≤ b) (h3 : b < 1099511627776) : ∃ Y : Nat, bits BinOp.or .i64 a b = (Y : Int) := by
  obtain ⟨A, rfl⟩ := Int.eq_ofNat_of_zero_le h0
  obtain ⟨B, rfl⟩ := Int.eq_ofNat_of_zero_le h2
  have hx : A ||| B < 2 ^ 40 := Nat.or_lt_two_pow (by omega) (by omega)
  refine ⟨A ||| B, ?_⟩
  show IntKind.i64.wrap ((BitVec.ofInt 64 (A : Int) ||| BitVec.ofInt 64 (B : Int)).toNat : Int) = _
  have e1 : (BitVec.ofInt 64 (A : Int)).toNat = A := by rw [BitVec.toNat_ofInt]; omega
  have e2 : (BitVec.ofInt 64 (B : Int)).toNat = B := by rw [BitVec.toNat_ofInt]; omega
  rw [BitVec.toNat_or, e1, e2]
  exact wrap_small (by omega)

def LengthPost (χ : Chi) (w : World) (D : Nat) (l : Nat) (cnt : Int) (e : Ending) (w' : World) : Prop :=
  w.grownBy w' (some D) ∧ ((∃ (n : Nat) (b : Bool) (ao' : Option Addr) (l' c' : Nat), n ≤ 65537 ∧ e = .returned (.tuple #[.int .i64 (n : Int), .bool b]) ∧ l' ≤ l ∧ Dec χ w' D ao' l' c' cnt) ∨ Raised e)

set_option maxRecDepth 100000 in
set_option maxHeartbeats 3200000 in
theorem length_any {χ : Chi} {w : World} {D : Nat} {ao : Option Addr} {l c : Nat} {cnt : Int} (h : Dec χ w D ao l c cnt) (vc vt : Int) (bt : Bool) (v3 v4 : Value) (h3 : v3.oneCell' = true) (h4 : v4.oneCell' = true) :
    Calls Tryz.prog 166 #[.pointer (some ⟨D, 0, none⟩), .agg #[.int .u8 vc, .int .u32 vt, .bool bt, v3, v4]] w (LengthPost χ w D l cnt) := by
  have hg0 := grown_alloc w (.cells #[.int .u8 vc, .int .u32 vt, .bool bt, v3, v4] 61)
  have hd0 := h.grown hg0
  have hb0 : (w.alloc (.cells #[.int .u8 vc, .int .u32 vt, .bool bt, v3, v4] 61)).heap[w.heap.size]? = some (.cells #[.int .u8 vc, .int .u32 vt, .bool bt, v3, v4] 61 (0, 0)) := by rw [alloc_get, if_pos rfl]
  have hDn : D ≠ w.heap.size := Nat.ne_of_lt h.lt
  have hnext := next_any hd0
  clear h
  go_enter Tryz.func166, Tryz.ntmps166
  go_wp2_with fail
  generalize hw1 : w.alloc (.cells #[.int .u8 vc, .int .u32 vt, .bool bt, v3, v4] 61) = w1 at *
  clear hw1
  go_at_call 164
  refine hnext.mono ?_
  clear hnext
  rintro e w2 ⟨hg1, (⟨h1, x, ao1, hx0, hx1, rfl, hd1⟩ | hR)⟩
  rotate_left
  · obtain ⟨n, n0, n1, rfl⟩ := hR
    exact ⟨rfl, grown_transD (grown_some hg0) hg1, .inr (raised_mk n0 n1)⟩
  have hg2 := grown_transD (grown_some (D := D) hg0) hg1
  have hb1 := (hg1.block _ (lt_of_blk hb0) (fun e => hDn (by cases e; rfl))).trans hb0
  have hbt : w2.cell? ⟨w.heap.size, 2, none⟩ = some (.bool bt) := by rw [cell?_blk hb1]; rfl
  clear hb0 hb1 hd0 hg1
  go_wp2_with fail
  · obtain ⟨m, rfl⟩ : ∃ m : Nat, x = (m : Int) := ⟨x.toNat, by omega⟩
    go_ret2
    exact ⟨hg2, .inl ⟨m, true, ao1, _, _, by omega, rfl, by omega, hd1⟩⟩
  · refine (must_any _ _ (by omega) (by omega)).mono ?_
    rintro e w3 ⟨rfl, (⟨hb1, rfl⟩ | ⟨hb1, hR⟩)⟩
    rotate_left
    · obtain ⟨n, n0, n1, rfl⟩ := hR
      exact ⟨rfl, hg2, .inr (raised_mk n0 n1)⟩
    clear hb1
    go_wp2
    go_ret2
    exact ⟨hg2, .inl ⟨0, false, ao1, _, _, by omega, rfl, by omega, hd1⟩⟩
  · refine (must_any _ _ (by omega) (by omega)).mono ?_
    rintro e w3 ⟨rfl, (⟨hb1, rfl⟩ | ⟨hb1, hR⟩)⟩
    rotate_left
    · obtain ⟨n, n0, n1, rfl⟩ := hR
      exact ⟨rfl, hg2, .inr (raised_mk n0 n1)⟩
    obtain ⟨m, hm⟩ : ∃ m : Nat, x = (m : Int) + 128 := ⟨(x - 128).toNat, by omega⟩
    subst hm
    have hm1 : m ≤ 127 := by omega
    have HB := Lib.hid hb1
    clear hb1 hbt
    go_wp2_with fail
    have htake := take_any (n := m) hd1 (by omega)
    go_at_call 168
    refine htake.mono ?_
    clear htake
    rintro e w4 ⟨hg4, (⟨hml, rfl, ao2, hd2⟩ | hR)⟩
    rotate_left
    · obtain ⟨n, n0, n1, rfl⟩ := hR
      exact ⟨rfl, grown_transD hg2 hg4, .inr (raised_mk n0 n1)⟩
    have hg5 := grown_transD hg2 hg4
    have hrow : ∃ u, NumsAt .u8 0 255 w4 ao1 m u := nums_read (c := c - 1) hd2.inv hd1.row (by have := hd1.lc; omega)
    obtain ⟨u, hu⟩ := hrow
    have hel1 : decide ((m : Int) + 128 < 128) = false := by simp; omega
    clear hd1 HB
    go_wp2_with fail
    go_loopg [7, 36] m (fun k p q wr => ∃ (j y : Nat), j + k = m ∧ p = .int .i64 (y : Int) ∧ q = .int .i64 (j : Int) ∧ y ≤ 65537 ∧ w4.grownBy wr none)
    case atStart => exact ⟨0, 0, by omega, rfl, rfl, by omega, grown_refl _⟩
    case round =>
      obtain ⟨j, y, hjk, rfl, rfl, hy, hgr⟩ := hrel
      cases gk with
      | zero =>
        have hil : decide (j < m) = false := by simp; omega
        obtain rfl : j = m := by omega
        clear hu
        go_wp2
        go_ret2
        exact ⟨grown_transD hg5 (grown_some hgr), .inl ⟨y, true, ao2, _, _, hy, rfl, by omega, hd2.grown hgr⟩⟩
      | succ k =>
        have hil : decide (j < m) = true := by simp; omega
        have hlt : j < m := by omega
        have hi0 : (0 : Int) ≤ (j : Int) := by omega
        have hi1 : (j : Int) < (m : Int) := by omega
        have hi40 : (j : Int) ≤ 1099511627776 := by omega
        obtain ⟨b, o, rfl, hbl, hx, hx0, hx1⟩ := (hu.grown hgr) j hlt
        obtain ⟨Y, hY⟩ := i64_or_small (a := (y : Int) * 256) (b := u j) (by omega) (by omega) hx0 (by omega)
        have HY := Lib.hid hY
        clear hu hY
        go_wp2
        · go_roundg k <;> first | omega | exact ⟨j + 1, 65537, by omega, rfl, by go_num, by omega, hgr⟩
        · go_roundg k <;> first | omega | exact ⟨j + 1, Y, by omega, by rw [HY.out], by go_num, by have := HY.out; omega, hgr⟩

def AheadPost (χ : Chi) (w : World) (D : Nat) (l : Nat) (cnt : Int) (e : Ending) (w' : World) : Prop :=
  w.grownBy w' (some D) ∧ ((∃ (b : Bool) (ao' : Option Addr) (l' c' : Nat), e = .returned (.bool b) ∧ l' ≤ l ∧ 1 ≤ l ∧ Dec χ w' D ao' l' c' cnt) ∨ Raised e)

set_option maxRecDepth 100000 in
set_option maxHeartbeats 3200000 in
theorem ahead_any {χ : Chi} {w : World} {D : Nat} {ao : Option Addr} {l c : Nat} {cnt : Int} (h : Dec χ w D ao l c cnt) :
    Calls Tryz.prog 167 #[.pointer (some ⟨D, 0, none⟩)] w (AheadPost χ w D l cnt) := by
  have hd0 := h.c0
  by_cases hl : 1 ≤ l
  · obtain ⟨b, o, rfl, hb, hr⟩ := row_read (l := 1) (i := 0) h.inv h.row (by have := h.lc; omega) (by omega) (by decide)
    obtain ⟨v, hv, x, rfl, hx0, hx1⟩ := hr 0 _ rfl
    simp only [Nat.zero_mul, Nat.add_zero] at hv
    have hil : decide (0 < l) = true := by simp; omega
    have hil2 : decide ((0 : Int) < (l : Int)) = true := by simp; omega
    have hl0 : (0 : Int) < (l : Int) := by omega
    have hl1 : 0 < l := by omega
    have htake := take_any (n := 2) h (by omega)
    have hrow := h.row
    have HD := Lib.hid h
    clear h hr hl
    go_enter Tryz.func167, Tryz.ntmps167
    go_wp2_with fail
    go_at_call 163
    refine (must_yes w 4).mono ?_
    rintro e w1 ⟨rfl, rfl⟩
    go_wp2_with fail
    · go_ret
      exact ⟨grown_some (grown_refl _), .inl ⟨true, _, _, _, rfl, Nat.le_refl _, by omega, HD.out⟩⟩
    · go_at_call 168
      refine htake.mono ?_
      clear htake
      rintro e w1 ⟨hg, (⟨h2, rfl, ao', hd⟩ | hR)⟩
      rotate_left
      · obtain ⟨n, n0, n1, rfl⟩ := hR
        exact ⟨rfl, hg, .inr (raised_mk n0 n1)⟩
      obtain ⟨b2, o2, e2, hb2, hr2⟩ := row_read (l := 2) (i := 1) hd.inv hrow (by have := HD.out.lc; omega) (by omega) (by decide)
      cases e2
      obtain ⟨v2, hv2, x2, rfl, hy0, hy1⟩ := hr2 0 _ rfl
      simp only [oct, List.length_cons, List.length_nil, Nat.zero_add, Nat.one_mul, Nat.add_zero] at hv2
      have hc2 : (1 : Int) < (c : Int) := by have := HD.out.lc; omega
      clear hr2 hv hd0 hrow
      go_wp2_with fail
      refine (must_any _ _ (by omega) (by omega)).mono ?_
      rintro e w3 ⟨rfl, (⟨hb3, rfl⟩ | ⟨hb3, hR⟩)⟩
      rotate_left
      · obtain ⟨n, n0, n1, rfl⟩ := hR
        exact ⟨rfl, hg, .inr (raised_mk n0 n1)⟩
      have HB := Lib.hid hb3
      clear hb3 hv2
      go_wp2
      go_ret
      exact ⟨hg, .inl ⟨false, ao', _, _, rfl, by omega, by omega, hd⟩⟩
  · have hil : decide (0 < l) = false := by simp; omega
    have hil2 : decide ((0 : Int) < (l : Int)) = false := by simp; omega
    obtain rfl : l = 0 := by omega
    clear h
    go_enter Tryz.func167, Tryz.ntmps167
    go_wp2_with fail
    refine (must_any _ _ (by omega) (by omega)).mono ?_
    rintro e w3 ⟨rfl, (⟨hb3, rfl⟩ | ⟨hb3, hR⟩)⟩
    · cases hb3
    · obtain ⟨n, n0, n1, rfl⟩ := hR
      exact ⟨rfl, grown_some (grown_refl _), .inr (raised_mk n0 n1)⟩

end Go.Sx
