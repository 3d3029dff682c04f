/- Part ShaH of a proof: helper lemmas; no conditions. -/
import Derived.Test.YtiecagflhhmfnaaDoorShaW
import Derived.Test.YtiecagflhhmfnaaDoorK
import Derived.Test.YtiecagflhhmfnaaDoorL

namespace Go.Sx
open Go Go.Proofs

/-- the numbers below n of which p holds -/
def wL (p : Nat → Bool) (n : Nat) : List Nat := (List.range n).filter p
def wV (l : List Nat) : List Value := l.map fun (i : Nat) => Value.int .i64 (i : Int)

theorem wL_zero (p : Nat → Bool) : wL p 0 = [] := rfl
theorem wL_yes {p : Nat → Bool} {j : Nat} (h : p j = true) : wL p (j + 1) = wL p j ++ [j] := by simp [wL, List.range_succ, h]
theorem wL_no {p : Nat → Bool} {j : Nat} (h : p j = false) : wL p (j + 1) = wL p j := by simp [wL, List.range_succ, h]
theorem wL_le (p : Nat → Bool) (n : Nat) : (wL p n).length ≤ n := by
  have := List.length_filter_le p (List.range n)
  simpa [wL] using this
theorem wL_mem {p : Nat → Bool} {n i : Nat} : i ∈ wL p n ↔ i < n ∧ p i = true := by simp [wL]
theorem wV_length (l : List Nat) : (wV l).length = l.length := by simp [wV]
theorem wV_app (l : List Nat) (j : Nat) : wV (l ++ [j]) = wV l ++ [.int .i64 (j : Int)] := by simp [wV]
theorem wV_one (l : List Nat) : ∀ u ∈ wV l, u.oneCell' = true := by
  intro u hu
  simp only [wV, List.mem_map] at hu
  obtain ⟨i, _, rfl⟩ := hu
  rfl

theorem grown_above {w w1 w2 : World} (h : w.grownBy w1 none) {v : Value} (h2 : w1.grownBy w2 v.ownBlock) (hk : ∀ k, v.ownBlock = some k → w.heap.size ≤ k) : w.grownBy w2 none := by
  refine ⟨h2.os.trans h.os, h2.tape.trans h.tape, h2.output.trans h.output, Nat.le_trans h.size h2.size, fun k hlt _ => ?_⟩
  refine (h2.block k (Nat.lt_of_lt_of_le hlt h.size) (fun e => ?_)).trans (h.block k hlt (by simp))
  have := hk k e.symm
  omega

theorem ownsRow_nil (w : World) (B : Nat) : w.ownsRow B 3 1 (.slice none 0 0) 0 [] := ⟨rfl, .inl ⟨rfl, rfl⟩⟩

theorem ownsRow_grown {w w' : World} {B e s n : Nat} {v : Value} {xs : List Value} (h : w.ownsRow B e s v n xs) (hg : w.grownBy w' none) : w'.ownsRow B e s v n xs := h.kept hg (by cases hv : v.ownBlock <;> simp)

theorem slice3 : Tryd.prog.underlying 25 = some (.slice 3) := Tryd.underlying25

/-- what a test, called, answers -/
def TestOK (P : Program) (w : World) (f : Nat) (caps : Array Value) (n : Nat) (el : Nat → Value) (p : Nat → Bool) : Prop :=
  callable P f = true ∧ ∀ w', w.grownBy w' none → ∀ i, i < n → Calls P f (#[.int .i64 (i : Int), el i] ++ caps) w' fun e w'' => e = .returned (.bool (p i)) ∧ w'.grownBy w'' none

set_option maxRecDepth 100000 in
set_option maxHeartbeats 3200000 in
theorem which203 (w : World) (ao : Option Addr) (n c f : Nat) (x : Nat → Int) (p : Nat → Bool) (caps : Array Value) (hn : n ≤ 1099511627776)
    (hrow : ∀ i, i < n → ∃ b o, ao = some ⟨b, o, none⟩ ∧ b < w.heap.size ∧ w.cell? ⟨b, o + i, none⟩ = some (.int .i64 (x i)))
    (ht : TestOK Tryd.prog w f caps n (fun i => .int .i64 (x i)) p) :
    Calls Tryd.prog 203 #[.slice ao n c, .func (.func f) #[] caps] w fun e w' => ∃ v, e = .returned v ∧ w.grownBy w' none ∧ w'.ownsRow w.heap.size 3 1 v (wL p n).length (wV (wL p n)) := by
  obtain ⟨i0, hi, hz0, hz1, hz2⟩ := info_parts infoI
  obtain ⟨hcal, ht⟩ := ht
  obtain ⟨fn, hh, hbody, hname⟩ := callable_ok hcal
  have hcf := run_callFn hh hbody hname
  go_enter Tryd.func203, Tryd.ntmps203
  go_wp2
  go_loopg [5, 10] n (fun k d q wr => ∃ j : Nat, j + k = n ∧ q = .int .i64 j ∧ w.grownBy wr none ∧ wr.ownsRow w.heap.size 3 1 d (wL p j).length (wV (wL p j)))
  case atStart => exact ⟨0, by simp, rfl, grown_refl _, ownsRow_nil _ _⟩
  case round =>
    obtain ⟨j, hjk, rfl, hg, hown⟩ := hrel
    cases gk with
    | zero =>
      have hil : decide (j < n) = false := by simp; omega
      obtain rfl : j = n := by omega
      go_wp2
      go_ret
      exact ⟨_, rfl, hg, hown⟩
    | succ k =>
      have hil : decide (j < n) = true := by simp; omega
      have hlt : j < n := by omega
      have hi0 : (0 : Int) ≤ (j : Int) := by omega
      have hi1 : (j : Int) < (n : Int) := by omega
      have hi40 : (j : Int) ≤ 1099511627776 := by omega
      obtain ⟨b, o, rfl, hb, hx0⟩ := hrow j hlt
      have hx : wr.cell? ⟨b, o + j, none⟩ = some (.int .i64 (x j)) := (World.cell?_of_block (a := ⟨b, o + j, none⟩) (hg.block b hb (by simp))).trans hx0
      have htest := ht wr hg j hlt
      have hle := wL_le p j
      clear hrow ht
      generalize hp : p j = pj at htest
      go_wp2_with (first
        | (refine htest.mono ?_
           clear htest
           rintro e w2 ⟨rfl, hg2⟩
           have hg3 := grown_trans hg hg2
           have hown2 := ownsRow_grown hown hg2)
        | (at_builtin; refine wpList_append_lies _ rfl (.tmp 19) (.tmp 21) 25 rfl w.heap.size 3 i0 (.int .i64 0) 1 8 slice3 hi hz0 hz1 hz2 rfl (by decide) _ (wL p j).length (wV (wL p j)) rfl (hown2.alloc _) ⟨w2.heap.size, 0, none⟩ 1 1 [.int .i64 j] rfl rfl ?c1 ?c2 (by omega) ?c3 ?c4 ?c5 _ rfl ?next))
      · exact World.news_of_block (cs := #[.int .i64 (j : Int)]) (t := 3) (fr := (0, 0)) (by rw [alloc_get, if_pos rfl])
      · simp [Value.oneCell']
      · unfold maxLen; omega
      · omega
      · have := alloc_size w2 (.cells #[.int .i64 (j : Int)] 3); have := hg3.size; omega
      · intro g cap w3 hown3 hgrow _ _
        have hpj : p j = true := by simp_all
        have hg4 : w.grownBy w3 none := grown_above (grown_trans hg3 (grown_alloc w2 _)) hgrow (fun k hk => (hown2.lt k hk).1)
        have e1 : (wL p j).length + 1 = (wL p (j + 1)).length := by rw [wL_yes hpj]; simp
        have e2 : wV (wL p j) ++ [Value.int .i64 (j : Int)] = wV (wL p (j + 1)) := by rw [wL_yes hpj, wV_app]
        have hown4 : w3.ownsRow w.heap.size 3 1 (.slice (some ⟨g, 0, none⟩) ((wL p j).length + 1) cap) (wL p (j + 1)).length (wV (wL p (j + 1))) := by rw [← e1, ← e2]; exact hown3
        clear e1 e2 hown3
        go_wp2
        go_roundg k <;> first | omega | exact ⟨j + 1, by omega, by go_num, hg4, hown4⟩
      · have hpj : p j = false := by simp_all
        rw [← wL_no hpj] at hown2
        go_roundg k <;> first | omega | exact ⟨j + 1, by omega, by go_num, hg3, hown2⟩

end Go.Sx

namespace Go.Sx
open Go Go.Proofs

set_option maxRecDepth 100000 in
set_option maxHeartbeats 3200000 in
theorem which156 (w : World) (ao : Option Addr) (n c f : Nat) (x0 x1 x2 : Nat → Int) (p : Nat → Bool) (caps : Array Value) (hn : n ≤ 1099511627776)
    (hrow : ∀ i, i < n → ∃ b o, ao = some ⟨b, o, none⟩ ∧ b < w.heap.size ∧ w.cell? ⟨b, o + i * 3, none⟩ = some (.int .u16 (x0 i)) ∧ w.cell? ⟨b, o + i * 3 + 1, none⟩ = some (.int .u16 (x1 i)) ∧ w.cell? ⟨b, o + i * 3 + 2, none⟩ = some (.int .u8 (x2 i)))
    (ht : TestOK Tryd.prog w f caps n (fun i => .agg #[.int .u16 (x0 i), .int .u16 (x1 i), .int .u8 (x2 i)]) p) :
    Calls Tryd.prog 156 #[.slice ao n c, .func (.func f) #[] caps] w fun e w' => ∃ v, e = .returned v ∧ w.grownBy w' none ∧ w'.ownsRow w.heap.size 3 1 v (wL p n).length (wV (wL p n)) := by
  obtain ⟨i0, hi, hz0, hz1, hz2⟩ := info_parts infoI
  obtain ⟨hcal, ht⟩ := ht
  obtain ⟨fn, hh, hbody, hname⟩ := callable_ok hcal
  have hcf := run_callFn hh hbody hname
  go_enter Tryd.func156, Tryd.ntmps156
  go_wp2
  go_loopg [5, 10] n (fun k d q wr => ∃ j : Nat, j + k = n ∧ q = .int .i64 j ∧ w.grownBy wr none ∧ wr.ownsRow w.heap.size 3 1 d (wL p j).length (wV (wL p j)))
  case atStart => exact ⟨0, by simp, rfl, grown_refl _, ownsRow_nil _ _⟩
  case round =>
    obtain ⟨j, hjk, rfl, hg, hown⟩ := hrel
    cases gk with
    | zero =>
      have hil : decide (j < n) = false := by simp; omega
      obtain rfl : j = n := by omega
      go_wp2
      go_ret
      exact ⟨_, rfl, hg, hown⟩
    | succ k =>
      have hil : decide (j < n) = true := by simp; omega
      have hlt : j < n := by omega
      have hi0 : (0 : Int) ≤ (j : Int) := by omega
      have hi1 : (j : Int) < (n : Int) := by omega
      have hi40 : (j : Int) ≤ 1099511627776 := by omega
      obtain ⟨b, o, rfl, hb, hx0, hx1, hx2⟩ := hrow j hlt
      have hy0 : wr.cell? ⟨b, o + j * 3, none⟩ = some (.int .u16 (x0 j)) := (World.cell?_of_block (hg.block b hb (by simp))).trans hx0
      have hy1 : wr.cell? ⟨b, o + j * 3 + 1, none⟩ = some (.int .u16 (x1 j)) := (World.cell?_of_block (hg.block b hb (by simp))).trans hx1
      have hy2 : wr.cell? ⟨b, o + j * 3 + 2, none⟩ = some (.int .u8 (x2 j)) := (World.cell?_of_block (hg.block b hb (by simp))).trans hx2
      have htest := ht (wr.alloc (.cells #[.int .u16 (x0 j), .int .u16 (x1 j), .int .u8 (x2 j)] 113)) (grown_trans hg (grown_alloc wr _)) j hlt
      have hle := wL_le p j
      clear hrow ht hx0 hx1 hx2
      generalize hp : p j = pj at htest
      go_wp2_with (first
        | (refine htest.mono ?_
           clear htest
           rintro e w2 ⟨rfl, hg2⟩
           have hg3 := grown_trans (grown_trans hg (grown_alloc wr _)) hg2
           have hown2 := ownsRow_grown (hown.alloc _) hg2)
        | (at_builtin; refine wpList_append_lies _ rfl (.tmp 19) (.tmp 21) 25 rfl w.heap.size 3 i0 (.int .i64 0) 1 8 slice3 hi hz0 hz1 hz2 rfl (by decide) _ (wL p j).length (wV (wL p j)) rfl (hown2.alloc _) ⟨w2.heap.size, 0, none⟩ 1 1 [.int .i64 j] rfl rfl ?c1 ?c2 (by omega) ?c3 ?c4 ?c5 _ rfl ?next))
      · exact World.news_of_block (cs := #[.int .i64 (j : Int)]) (t := 3) (fr := (0, 0)) (by rw [alloc_get, if_pos rfl])
      · simp [Value.oneCell']
      · unfold maxLen; omega
      · omega
      · have := alloc_size w2 (.cells #[.int .i64 (j : Int)] 3); have := hg3.size; omega
      · intro g cap w3 hown3 hgrow _ _
        have hpj : p j = true := by simp_all
        have hg4 : w.grownBy w3 none := grown_above (grown_trans hg3 (grown_alloc w2 _)) hgrow (fun k hk => (hown2.lt k hk).1)
        have e1 : (wL p j).length + 1 = (wL p (j + 1)).length := by rw [wL_yes hpj]; simp
        have e2 : wV (wL p j) ++ [Value.int .i64 (j : Int)] = wV (wL p (j + 1)) := by rw [wL_yes hpj, wV_app]
        have hown4 : w3.ownsRow w.heap.size 3 1 (.slice (some ⟨g, 0, none⟩) ((wL p j).length + 1) cap) (wL p (j + 1)).length (wV (wL p (j + 1))) := by rw [← e1, ← e2]; exact hown3
        clear e1 e2 hown3
        go_wp2
        go_roundg k <;> first | omega | exact ⟨j + 1, by omega, by go_num, hg4, hown4⟩
      · have hpj : p j = false := by simp_all
        rw [← wL_no hpj] at hown2
        go_roundg k <;> first | omega | exact ⟨j + 1, by omega, by go_num, hg3, hown2⟩

set_option maxRecDepth 100000 in
set_option maxHeartbeats 3200000 in
theorem which151 (w : World) (ao : Option Addr) (n c f : Nat) (x0 x1 : Nat → Int) (p : Nat → Bool) (caps : Array Value) (hn : n ≤ 1099511627776)
    (hrow : ∀ i, i < n → ∃ b o, ao = some ⟨b, o, none⟩ ∧ b < w.heap.size ∧ w.cell? ⟨b, o + i * 2, none⟩ = some (.int .u16 (x0 i)) ∧ w.cell? ⟨b, o + i * 2 + 1, none⟩ = some (.int .i64 (x1 i)))
    (ht : TestOK Tryd.prog w f caps n (fun i => .agg #[.int .u16 (x0 i), .int .i64 (x1 i)]) p) :
    Calls Tryd.prog 151 #[.slice ao n c, .func (.func f) #[] caps] w fun e w' => ∃ v, e = .returned v ∧ w.grownBy w' none ∧ w'.ownsRow w.heap.size 3 1 v (wL p n).length (wV (wL p n)) := by
  obtain ⟨i0, hi, hz0, hz1, hz2⟩ := info_parts infoI
  obtain ⟨hcal, ht⟩ := ht
  obtain ⟨fn, hh, hbody, hname⟩ := callable_ok hcal
  have hcf := run_callFn hh hbody hname
  go_enter Tryd.func151, Tryd.ntmps151
  go_wp2
  go_loopg [5, 10] n (fun k d q wr => ∃ j : Nat, j + k = n ∧ q = .int .i64 j ∧ w.grownBy wr none ∧ wr.ownsRow w.heap.size 3 1 d (wL p j).length (wV (wL p j)))
  case atStart => exact ⟨0, by simp, rfl, grown_refl _, ownsRow_nil _ _⟩
  case round =>
    obtain ⟨j, hjk, rfl, hg, hown⟩ := hrel
    cases gk with
    | zero =>
      have hil : decide (j < n) = false := by simp; omega
      obtain rfl : j = n := by omega
      go_wp2
      go_ret
      exact ⟨_, rfl, hg, hown⟩
    | succ k =>
      have hil : decide (j < n) = true := by simp; omega
      have hlt : j < n := by omega
      have hi0 : (0 : Int) ≤ (j : Int) := by omega
      have hi1 : (j : Int) < (n : Int) := by omega
      have hi40 : (j : Int) ≤ 1099511627776 := by omega
      obtain ⟨b, o, rfl, hb, hx0, hx1⟩ := hrow j hlt
      have hy0 : wr.cell? ⟨b, o + j * 2, none⟩ = some (.int .u16 (x0 j)) := (World.cell?_of_block (hg.block b hb (by simp))).trans hx0
      have hy1 : wr.cell? ⟨b, o + j * 2 + 1, none⟩ = some (.int .i64 (x1 j)) := (World.cell?_of_block (hg.block b hb (by simp))).trans hx1
      have htest := ht (wr.alloc (.cells #[.int .u16 (x0 j), .int .i64 (x1 j)] 221)) (grown_trans hg (grown_alloc wr _)) j hlt
      have hle := wL_le p j
      clear hrow ht hx0 hx1
      generalize hp : p j = pj at htest
      go_wp2_with (first
        | (refine htest.mono ?_
           clear htest
           rintro e w2 ⟨rfl, hg2⟩
           have hg3 := grown_trans (grown_trans hg (grown_alloc wr _)) hg2
           have hown2 := ownsRow_grown (hown.alloc _) hg2)
        | (at_builtin; refine wpList_append_lies _ rfl (.tmp 19) (.tmp 21) 25 rfl w.heap.size 3 i0 (.int .i64 0) 1 8 slice3 hi hz0 hz1 hz2 rfl (by decide) _ (wL p j).length (wV (wL p j)) rfl (hown2.alloc _) ⟨w2.heap.size, 0, none⟩ 1 1 [.int .i64 j] rfl rfl ?c1 ?c2 (by omega) ?c3 ?c4 ?c5 _ rfl ?next))
      · exact World.news_of_block (cs := #[.int .i64 (j : Int)]) (t := 3) (fr := (0, 0)) (by rw [alloc_get, if_pos rfl])
      · simp [Value.oneCell']
      · unfold maxLen; omega
      · omega
      · have := alloc_size w2 (.cells #[.int .i64 (j : Int)] 3); have := hg3.size; omega
      · intro g cap w3 hown3 hgrow _ _
        have hpj : p j = true := by simp_all
        have hg4 : w.grownBy w3 none := grown_above (grown_trans hg3 (grown_alloc w2 _)) hgrow (fun k hk => (hown2.lt k hk).1)
        have e1 : (wL p j).length + 1 = (wL p (j + 1)).length := by rw [wL_yes hpj]; simp
        have e2 : wV (wL p j) ++ [Value.int .i64 (j : Int)] = wV (wL p (j + 1)) := by rw [wL_yes hpj, wV_app]
        have hown4 : w3.ownsRow w.heap.size 3 1 (.slice (some ⟨g, 0, none⟩) ((wL p j).length + 1) cap) (wL p (j + 1)).length (wV (wL p (j + 1))) := by rw [← e1, ← e2]; exact hown3
        clear e1 e2 hown3
        go_wp2
        go_roundg k <;> first | omega | exact ⟨j + 1, by omega, by go_num, hg4, hown4⟩
      · have hpj : p j = false := by simp_all
        rw [← wL_no hpj] at hown2
        go_roundg k <;> first | omega | exact ⟨j + 1, by omega, by go_num, hg3, hown2⟩

end Go.Sx

namespace Go.Sx
open Go Go.Proofs

/-- what a test of one number answers -/
def Tests1 (P : Program) (w : World) (f : Nat) (caps : Array Value) (S : Nat → Prop) (U : Nat → Bool) : Prop :=
  callable P f = true ∧ ∀ w', w.grownBy w' none → ∀ i, S i → Calls P f (#[.int .i64 (i : Int)] ++ caps) w' fun e w'' => e = .returned (.bool (U i)) ∧ w'.grownBy w'' none

theorem Tests1.grown {P : Program} {w w' : World} {f : Nat} {caps : Array Value} {S : Nat → Prop} {U : Nat → Bool} (h : Tests1 P w f caps S U) (hg : w.grownBy w' none) : Tests1 P w' f caps S U :=
  ⟨h.1, fun w2 hg2 => h.2 w2 (grown_trans hg hg2)⟩

theorem cell_grown {w w' : World} {b o : Nat} {v : Value} (hc : w.cell? ⟨b, o, none⟩ = some v) (hb : b < w.heap.size) (hg : w.grownBy w' none) : w'.cell? ⟨b, o, none⟩ = some v :=
  (World.cell?_of_block (a := ⟨b, o, none⟩) (hg.block b hb (by simp))).trans hc

theorem test204 {w : World} {tb f m : Nat} {caps : Array Value} {S : Nat → Prop} {U : Nat → Bool} {y : Nat → Nat} (htb : tb < w.heap.size) (hc : w.cell? ⟨tb, 0, none⟩ = some (.func (.func f) #[] caps))
    (ht : Tests1 Tryd.prog w f caps S U) (hy : ∀ j, j < m → S (y j)) : TestOK Tryd.prog w 204 #[.pointer (some ⟨tb, 0, none⟩)] m (fun j => .int .i64 (y j : Int)) (fun j => U (y j)) := by
  obtain ⟨hcal, ht⟩ := ht
  obtain ⟨fn, hh, hbody, hname⟩ := callable_ok hcal
  have hcf := run_callFn hh hbody hname
  refine ⟨by kernel_rfl, fun w' hg i hi => ?_⟩
  have hc' := cell_grown hc htb hg
  have h1 := ht w' hg (y i) (hy i hi)
  clear ht hy hc
  show Calls Tryd.prog 204 #[.int .i64 (i : Int), .int .i64 (y i : Int), .pointer (some ⟨tb, 0, none⟩)] w' _
  go_enter Tryd.func204, Tryd.ntmps204
  go_wp2_with (refine h1.mono ?_; clear h1; rintro e w2 ⟨rfl, hg2⟩)
  go_ret
  exact ⟨rfl, hg2⟩

set_option maxRecDepth 100000 in
set_option maxHeartbeats 3200000 in
theorem place154 (w : World) (g m c f q : Nat) (y : Nat → Nat) (U : Nat → Bool) (caps : Array Value) (S : Nat → Prop) (hm : m ≤ 1099511627776) (hq : q ≤ 1000) (hglt : g < w.heap.size)
    (hrow : ∀ j, j < m → w.cell? ⟨g, j, none⟩ = some (.int .i64 (y j : Int))) (hS : ∀ j, j < m → S (y j)) (hne : ∃ j, j < m ∧ U (y j) = true) (ht : Tests1 Tryd.prog w f caps S U) :
    Calls Tryd.prog 154 #[.slice (some ⟨g, 0, none⟩) m c, .func (.func f) #[] caps, .int .i64 (q : Int)] w fun e w' => ∃ j, j < m ∧ e = .returned (.int .i64 (y j : Int)) ∧ w.grownBy w' none := by
  obtain ⟨j0, hj0, hU0⟩ := hne
  have hm0 : 0 < m := by omega
  have hcal := ht.1
  obtain ⟨fn, hh, hbody, hname⟩ := callable_ok hcal
  have hcf := run_callFn hh hbody hname
  have hw1 := alloc_size w (.cells #[.func (.func f) #[] caps] 235)
  have hg1 := grown_alloc w (.cells #[.func (.func f) #[] caps] 235)
  have hc1 : (w.alloc (.cells #[.func (.func f) #[] caps] 235)).cell? ⟨w.heap.size, 0, none⟩ = some (.func (.func f) #[] caps) := by
    rw [cell?_blk (by rw [alloc_get, if_pos rfl])]; rfl
  have hqm := Nat.mod_lt q hm0
  have hqm0 : ¬ (m : Int) = 0 := by omega
  have hqi0 : (0 : Int) ≤ (q : Int) % (m : Int) := Int.emod_nonneg _ hqm0
  have hqi1 : (q : Int) % (m : Int) < (m : Int) := Int.emod_lt_of_pos _ (by omega)
  have hx1 : (w.alloc (.cells #[.func (.func f) #[] caps] 235)).cell? ⟨g, q % m, none⟩ = some (.int .i64 (y (q % m) : Int)) := cell_grown (hrow _ hqm) hglt hg1
  have h1 := ht.2 _ hg1 (y (q % m)) (hS _ hqm)
  generalize hp : U (y (q % m)) = pj at h1
  go_enter Tryd.func154, Tryd.ntmps154
  go_wp2_with (first
    | (refine h1.mono ?_
       clear h1
       rintro e w2 ⟨rfl, hg2⟩
       have hgw2 := grown_trans hg1 hg2
       have hc2 := cell_grown hc1 (by omega) hg2
       have ht2 := test204 (by have := hg2.size; omega) hc2 (ht.grown hgw2) hS
       have hs2 := hgw2.size
       have h3 := which203 w2 (some ⟨g, 0, none⟩) m c 204 (fun j => (y j : Int)) (fun j => U (y j)) _ hm (fun i hi => ⟨g, 0, rfl, by omega, by rw [Nat.zero_add]; exact cell_grown (hrow i hi) hglt hgw2⟩) ht2))
  · go_ret
    exact ⟨q % m, hqm, rfl, hgw2⟩
  · refine h3.mono ?_
    clear h3
    rintro e w3 ⟨v, rfl, hg3, hown⟩
    have hgw3 := grown_trans hgw2 hg3
    have hmem : j0 ∈ wL (fun j => U (y j)) m := wL_mem.2 ⟨hj0, hU0⟩
    have hlen : 0 < (wL (fun j => U (y j)) m).length := List.length_pos_of_mem hmem
    have hll := wL_le (fun j => U (y j)) m
    obtain ⟨g2, cap, rfl, hb2, hl2⟩ := hown.form hlen
    have hcells := hown.cellAt
    have hin : ∀ r (hr : r < (wL (fun j => U (y j)) m).length), (wL (fun j => U (y j)) m)[r] < m := fun r hr => (wL_mem.1 (List.getElem_mem hr)).1
    have hgc : ∀ r, r < (wL (fun j => U (y j)) m).length → w3.cell? ⟨g2, r, none⟩ = some (.int .i64 (((wL (fun j => U (y j)) m)[r]?.getD 0 : Nat) : Int)) := fun r hr => by
      rw [hcells r (by omega)]
      simp [wV, hr]
    have hin2 : ∀ r, r < (wL (fun j => U (y j)) m).length → (wL (fun j => U (y j)) m)[r]?.getD 0 < m := fun r hr => by
      rw [List.getElem?_eq_getElem hr]; exact hin r hr
    clear hin hcells hown hmem
    generalize (wL (fun j => U (y j)) m).length = L at *
    obtain ⟨z, hzz⟩ : ∃ z : Nat → Nat, ∀ r : Nat, (wL (fun j => U (y j)) m)[r]?.getD 0 = z r := ⟨_, fun _ => rfl⟩
    have hr1 := Nat.mod_lt (q / m) hlen
    simp only [hzz] at hgc hin2
    have hgc1 := hgc _ hr1
    have hz1 := hin2 _ hr1
    have hy1 := cell_grown (hrow _ hz1) hglt hgw3
    have hL0 : ¬ (L : Int) = 0 := by omega
    have hzi0 : (0 : Int) ≤ (q : Int) / (m : Int) % (L : Int) := Int.emod_nonneg _ hL0
    have hzi1 : (q : Int) / (m : Int) % (L : Int) < (L : Int) := Int.emod_lt_of_pos _ (by omega)
    have hzj0 : (0 : Int) ≤ (z (q / m % L) : Int) := by omega
    have hzj1 : (z (q / m % L) : Int) < (m : Int) := by omega
    have hqn : (0 : Int) ≤ (q : Int) / (m : Int) := Int.ediv_nonneg (Int.natCast_nonneg q) (Int.natCast_nonneg m)
    have hqu : (q : Int) / (m : Int) ≤ 1000 := Int.le_trans (Int.ediv_le_self _ (Int.natCast_nonneg q)) (by omega)
    have hwr : RowKit.wrap64 ((q : Int) / (m : Int)) = (q : Int) / (m : Int) := by
      unfold RowKit.wrap64
      generalize (q : Int) / (m : Int) = u at *
      omega
    have htm : ((q : Int) / (m : Int)).tmod (L : Int) = (q : Int) / (m : Int) % (L : Int) := Int.tmod_eq_emod_of_nonneg hqn
    have hto : ((q : Int) / (m : Int) % (L : Int)).toNat = q / m % L := by rw [← Int.natCast_ediv, ← Int.natCast_emod, Int.toNat_natCast]
    clear hgc hin2 hzz
    dsimp only
    go_wp2
    go_ret
    exact ⟨z (q / m % L), hz1, rfl, hgw3⟩

end Go.Sx

namespace Go.Sx
open Go Go.Proofs

/-- a list of truths in memory -/
def BoolsAt (w : World) (ao : Option Addr) (n : Nat) (u : Nat → Bool) : Prop := ∀ i, i < n → ∃ b o, ao = some ⟨b, o, none⟩ ∧ b < w.heap.size ∧ w.cell? ⟨b, o + i, none⟩ = some (.bool (u i))
theorem BoolsAt.grown {w w' : World} {ao : Option Addr} {n : Nat} {u : Nat → Bool} (h : BoolsAt w ao n u) (hg : w.grownBy w' none) : BoolsAt w' ao n u := fun i hi => by
  obtain ⟨b, o, e, hb, hc⟩ := h i hi
  exact ⟨b, o, e, Nat.lt_of_lt_of_le hb hg.size, cell_grown hc hb hg⟩

def upU (nu : Nat) (u : Nat → Bool) (i : Nat) : Bool := decide (i < nu) && u i

set_option maxRecDepth 100000 in
set_option maxHeartbeats 1600000 in
theorem test155 {w : World} {tb nu uc : Nat} {uao : Option Addr} {u : Nat → Bool} (htb : tb < w.heap.size) (hnu : nu ≤ 1099511627776) (hc : w.cell? ⟨tb, 0, none⟩ = some (.slice uao nu uc)) (hu : BoolsAt w uao nu u) :
    Tests1 Tryd.prog w 155 #[.pointer (some ⟨tb, 0, none⟩)] (fun i => i ≤ 1099511627776) (upU nu u) := by
  refine ⟨by kernel_rfl, fun w' hg i hi => ?_⟩
  have hc' := cell_grown hc htb hg
  have hu' := hu.grown hg
  clear hc hu
  show Calls Tryd.prog 155 #[.int .i64 (i : Int), .pointer (some ⟨tb, 0, none⟩)] w' _
  by_cases hlt : i < nu
  · obtain ⟨b, o, rfl, hb, hx⟩ := hu' i hlt
    have hil : decide ((i : Int) < (nu : Int)) = true := by simp; omega
    have hi0 : (0 : Int) ≤ (i : Int) := by omega
    have hi1 : (i : Int) < (nu : Int) := by omega
    have hU : upU nu u i = u i := by simp [upU, hlt]
    rw [hU]
    go_enter Tryd.func155, Tryd.ntmps155
    go_wp2
    go_ret
    exact ⟨rfl, grown_refl _⟩
  · have hil : decide ((i : Int) < (nu : Int)) = false := by simp; omega
    have hil2 : ¬ (i : Int) < (nu : Int) := by omega
    have hU : upU nu u i = false := by simp [upU, hlt]
    rw [hU]
    go_enter Tryd.func155, Tryd.ntmps155
    go_wp2
    go_ret
    exact ⟨rfl, grown_refl _⟩

theorem test157 {w : World} {tb f n : Nat} {caps : Array Value} {S : Nat → Prop} {U : Nat → Bool} {x0 x1 x2 : Nat → Int} (htb : tb < w.heap.size) (hc : w.cell? ⟨tb, 0, none⟩ = some (.func (.func f) #[] caps))
    (ht : Tests1 Tryd.prog w f caps S U) (hy : ∀ j, j < n → S j) : TestOK Tryd.prog w 157 #[.pointer (some ⟨tb, 0, none⟩)] n (fun i => .agg #[.int .u16 (x0 i), .int .u16 (x1 i), .int .u8 (x2 i)]) U := by
  obtain ⟨hcal, ht⟩ := ht
  obtain ⟨fn, hh, hbody, hname⟩ := callable_ok hcal
  have hcf := run_callFn hh hbody hname
  refine ⟨by kernel_rfl, fun w' hg i hi => ?_⟩
  have hg1 := grown_trans hg (grown_alloc w' (.cells #[.int .u16 (x0 i), .int .u16 (x1 i), .int .u8 (x2 i)] 113))
  have hc' := cell_grown hc htb hg1
  have h1 := ht _ hg1 i (hy i hi)
  clear ht hy hc
  show Calls Tryd.prog 157 #[.int .i64 (i : Int), .agg #[.int .u16 (x0 i), .int .u16 (x1 i), .int .u8 (x2 i)], .pointer (some ⟨tb, 0, none⟩)] w' _
  go_enter Tryd.func157, Tryd.ntmps157
  go_wp2_with (refine h1.mono ?_; clear h1; rintro e w2 ⟨rfl, hg2⟩)
  go_ret
  exact ⟨rfl, grown_trans (grown_alloc w' _) hg2⟩

theorem test158 {w : World} {n : Nat} {x0 x1 x2 : Nat → Int} : TestOK Tryd.prog w 158 #[] n (fun i => .agg #[.int .u16 (x0 i), .int .u16 (x1 i), .int .u8 (x2 i)]) (fun _ => true) := by
  refine ⟨by kernel_rfl, fun w' hg i hi => ?_⟩
  show Calls Tryd.prog 158 #[.int .i64 (i : Int), .agg #[.int .u16 (x0 i), .int .u16 (x1 i), .int .u8 (x2 i)]] w' _
  go_enter Tryd.func158, Tryd.ntmps158
  go_wp2
  go_ret
  exact ⟨rfl, grown_alloc w' _⟩

end Go.Sx

namespace Go.Sx
open Go Go.Proofs

theorem ownsRow_form {w : World} {B e s n : Nat} {v : Value} {xs : List Value} (h : w.ownsRow B e s v n xs) : ∃ ao c, v = .slice ao n c := by
  rcases h.2 with ⟨rfl, rfl⟩ | ⟨g, cap, cur, rfl, _⟩
  · exact ⟨none, 0, rfl⟩
  · exact ⟨_, _, rfl⟩

theorem store_fresh1 {P : Program} {w : World} {b E : Nat} {z v : Value} (hb : b = w.heap.size) (h1 : v.oneCell' = true) : (store ⟨b, 0, none⟩ v).run P (w.alloc (.cells #[z] E)) = .ok () (w.alloc (.cells #[v] E)) := by
  subst hb
  have hn := store_new (P := P) w E #[z] #[v] rfl (by simpa using h1)
  have he : (w.alloc (.cells #[z] E)).heap[w.heap.size]? = some (.cells #[z] E (0, 0)) := by rw [alloc_get, if_pos rfl]
  have hr := run_storeCells_blk P [v] w.heap.size 0 0 _ #[z] E (0, 0) he (by simp) (fun j _ h => by omega) (by simpa using h1)
  rw [show (#[v] : Array Value).toList = [v] from rfl, hr] at hn
  injection hn with _ hn
  rw [run_store P _ _ v _ h1, cell?_blk he, frozen?_blk he]
  simp only [List.getElem?_toArray, List.getElem?_cons_zero]
  rw [setCell_blk he, ← hn]
  rfl

noncomputable def hcon159 : Contract := conOf Tryd.prog 2000 2000 false ((Tryd.prog.funcs[159]?).getD default)
theorem hfn159 : FnOK Tryd.prog 159 hcon159 := checkFn_ok (env := ({ P := Tryd.prog } : Env)) (fun _ _ h => nomatch h) (fuel := 200) (vcs := []) (by kernel_rfl) (valids_nil)
theorem hcon159_iv : hcon159.iv = [some (0, 255)] := by kernel_rfl
theorem hcon159_params : hcon159.params = [.pv (.one (.int .u8 (.v 0)))] := by kernel_rfl
theorem hcon159_riv : hcon159.riv = [some (0, 255)] := by kernel_rfl
theorem hcon159_res : hcon159.res = .pv (.one (.int .u8 (.v 1))) := by kernel_rfl
theorem hcon159_pre : hcon159.pre = [] := by kernel_rfl
theorem hcon159_gl : hcon159.gl = [] := by kernel_rfl

set_option maxRecDepth 100000 in
theorem rot159 (w : World) (sel : Int) (h0 : 0 ≤ sel) (h1 : sel ≤ 255) : Calls Tryd.prog 159 #[.int .u8 sel] w fun e w' => ∃ r : Nat, r ≤ 255 ∧ e = .returned (.int .u8 (r : Int)) ∧ w.grownBy w' none := by
  have h := hfn159 { Chi.none with ρ := fun _ => sel } w #[.int .u8 sel] ⟨fun _ h => h, fun _ h => h.elim, fun _ h => h.elim, fun _ h => h.elim⟩
    (by rw [hcon159_params]; exact ⟨rfl, trivial⟩) (by rw [hcon159_iv]; exact ⟨⟨h0, h1⟩, trivial⟩) (by rw [hcon159_pre]; trivial) (by rw [hcon159_gl]; exact fun _ h => nomatch h)
  refine h.mono ?_
  rintro e w' ⟨v, χ', rfl, _, hm, _, hv, hi, _⟩
  rw [hcon159_res] at hv
  rw [hcon159_riv] at hi
  simp only [gAV, gPV, gSV, T.ev] at hv
  have e1 : hcon159.nv = 1 := by simp [Contract.nv, hcon159_iv]
  simp only [ivOK, e1] at hi
  refine ⟨(χ'.ρ 1).toNat, by omega, ?_, ⟨hm.os, hm.tape, hm.output, hm.size, fun k hk _ => hm.old k hk id⟩⟩
  rw [hv, Int.toNat_of_nonneg hi.1.1]

theorem wrap_small {r : Nat} (h : r ≤ 255) : IntKind.i64.wrap (r : Int) = (r : Int) := wrap_id (by show (-9223372036854775808 : Int) ≤ _; omega) (by show _ ≤ (9223372036854775807 : Int); omega)

theorem grown_drew0 (w : World) : w.grownBy w.drew none := ⟨rfl, rfl, rfl, Nat.le_refl _, fun _ _ _ => rfl⟩

set_option maxRecDepth 100000 in
set_option maxHeartbeats 3200000 in
theorem link52 (w : World) (lao uao : Option Addr) (n lc nu uc : Nat) (sel : Int) (x0 x1 x2 : Nat → Int) (u : Nat → Bool) (hn : n ≤ 1099511627776) (hnu : nu ≤ 1099511627776) (h0 : 0 ≤ sel) (h1 : sel ≤ 255)
    (hrow : ∀ i, i < n → ∃ b o, lao = some ⟨b, o, none⟩ ∧ b < w.heap.size ∧ w.cell? ⟨b, o + i * 3, none⟩ = some (.int .u16 (x0 i)) ∧ w.cell? ⟨b, o + i * 3 + 1, none⟩ = some (.int .u16 (x1 i)) ∧ w.cell? ⟨b, o + i * 3 + 2, none⟩ = some (.int .u8 (x2 i)))
    (hu : BoolsAt w uao nu u) :
    Calls Tryd.prog 52 #[.slice lao n lc, .slice uao nu uc, .int .u8 sel] w fun e w' => ∃ (r : Nat) (b : Bool), r ≤ 1099511627776 ∧ e = .returned (.tuple #[.int .i64 (r : Int), .bool b]) ∧ w.grownBy w' none := by
  have hg1 := grown_alloc w (.cells #[.slice uao nu uc] 91)
  have hs1 := alloc_size w (.cells #[.slice uao nu uc] 91)
  have hg2 := grown_trans hg1 (grown_alloc (w.alloc (.cells #[.slice uao nu uc] 91)) (.cells #[.func (.func 155) #[] #[.pointer (some ⟨w.heap.size, 0, none⟩)]] 235))
  have hs2 := alloc_size (w.alloc (.cells #[.slice uao nu uc] 91)) (.cells #[.func (.func 155) #[] #[.pointer (some ⟨w.heap.size, 0, none⟩)]] 235)
  have hb0 : ((w.alloc (.cells #[.slice uao nu uc] 91)).alloc (.cells #[.func (.func 155) #[] #[.pointer (some ⟨w.heap.size, 0, none⟩)]] 235)).cell? ⟨w.heap.size, 0, none⟩ = some (.slice uao nu uc) := by
    rw [cell?_blk (by rw [alloc_get, if_neg (by omega), alloc_get, if_pos rfl])]; rfl
  have hb1 : ((w.alloc (.cells #[.slice uao nu uc] 91)).alloc (.cells #[.func (.func 155) #[] #[.pointer (some ⟨w.heap.size, 0, none⟩)]] 235)).cell? ⟨w.heap.size + 1, 0, none⟩ = some (.func (.func 155) #[] #[.pointer (some ⟨w.heap.size, 0, none⟩)]) := by
    rw [cell?_blk (by rw [alloc_get, if_pos hs1.symm])]; rfl
  have hst := store_fresh1 (P := Tryd.prog) (w := w.alloc (.cells #[.slice uao nu uc] 91)) (b := w.heap.size + 1) (E := 235) (z := .nilFunc) (v := .func (.func 155) #[] #[.pointer (some ⟨w.heap.size, 0, none⟩)]) hs1.symm rfl
  generalize hw2 : (w.alloc (.cells #[.slice uao nu uc] 91)).alloc (.cells #[.func (.func 155) #[] #[.pointer (some ⟨w.heap.size, 0, none⟩)]] 235) = w2 at *
  have ht1 := test155 (by omega) hnu hb0 (hu.grown hg2)
  have hrows : ∀ w', w.grownBy w' none → ∀ i, i < n → ∃ b o, lao = some ⟨b, o, none⟩ ∧ b < w'.heap.size ∧ w'.cell? ⟨b, o + i * 3, none⟩ = some (.int .u16 (x0 i)) ∧ w'.cell? ⟨b, o + i * 3 + 1, none⟩ = some (.int .u16 (x1 i)) ∧ w'.cell? ⟨b, o + i * 3 + 2, none⟩ = some (.int .u8 (x2 i)) := fun w' hg i hi => by
    obtain ⟨b, o, e, hb, c0, c1, c2⟩ := hrow i hi
    exact ⟨b, o, e, Nat.lt_of_lt_of_le hb hg.size, cell_grown c0 hb hg, cell_grown c1 hb hg, cell_grown c2 hb hg⟩
  have hA := which156 w2 lao n lc 157 x0 x1 x2 (upU nu u) _ hn (hrows _ hg2) (test157 (by omega) hb1 ht1 (fun j hj => by omega))
  clear hrow hu
  go_enter Tryd.func52, Tryd.ntmps52
  go_wp2_with (first
    | (go_at_call 156; refine hA.mono ?_
       clear hA
       rintro e w3 ⟨v, rfl, hg3, hown⟩
       have hgw3 := grown_trans hg2 hg3
       obtain ⟨aoA, cA, rfl⟩ := ownsRow_form hown
       have hnz : ∀ j, j ∈ wL (upU nu u) n → j < n ∧ upU nu u j = true := fun j hj => wL_mem.1 hj
       have hleA := wL_le (upU nu u) n
       have hex : (wL (upU nu u) n).length = 0 ∨ ∃ j, j < n ∧ upU nu u j = true := by
         cases hl : wL (upU nu u) n with
         | nil => exact .inl rfl
         | cons a t => exact .inr ⟨a, hnz a (by rw [hl]; exact List.mem_cons_self ..)⟩
       generalize (wL (upU nu u) n).length = L at *
       clear hown hnz))
  · go_ret2
    exact ⟨0, false, by omega, rfl, hgw3⟩
  · have hL : ¬ ((L : Int) == 0) = true := by simp_all
    have hL' : L ≠ 0 := by intro h; apply hL; simp [h]
    obtain ⟨j0, hj0, hU0⟩ := hex.resolve_left hL'
    have hB := which156 w3 lao n lc 158 x0 x1 x2 (fun _ => true) #[] hn (hrows _ hgw3) test158
    have eR : wL (fun _ => true) n = List.range n := by simp [wL]
    rw [eR, List.length_range] at hB
    have hb1' := cell_grown hb1 (by omega) hg3
    have ht3 := ht1.grown hg3
    have hs3 := hg3.size
    have hs2' : w.heap.size + 2 ≤ w2.heap.size := by omega
    clear hrows hex hb0 hb1 ht1 hst hw2 eR hg1 hs1 hs2
    go_wp2_with (first
      | (go_at_call 156; refine hB.mono ?_
         clear hB
         rintro e w4 ⟨v2, rfl, hg4, hown⟩
         have hgw4 := grown_trans hgw3 hg4
         obtain ⟨g, cap, rfl, hb2, hl2⟩ := hown.form (by omega)
         have hcells : ∀ j, j < n → w4.cell? ⟨g, j, none⟩ = some (.int .i64 (j : Int)) := fun j hj => by
           rw [hown.cellAt j (by omega)]
           simp [wV, hj]
         have hb4 := cell_grown hb1' (by omega) hg4
         have ht4 := ht3.grown hg4
         clear hown))
    have hgd := grown_trans hgw4 (grown_drew0 w4)
    have hbd : w4.drew.cell? ⟨w.heap.size + 1, 0, none⟩ = some (.func (.func 155) #[] #[.pointer (some ⟨w.heap.size, 0, none⟩)]) := hb4
    have hs4 := hg4.size
    have hPl : ∀ (w5 : World), w4.grownBy w5 none → ∀ r : Nat, r ≤ 255 → Calls Tryd.prog 154 #[.slice (some ⟨g, 0, none⟩) n cap, .func (.func 155) #[] #[.pointer (some ⟨w.heap.size, 0, none⟩)], .int .i64 (r : Int)] w5 fun e w' => ∃ j, j < n ∧ e = .returned (.int .i64 (j : Int)) ∧ w5.grownBy w' none := fun w5 h5 r hr =>
      place154 w5 g n cap 155 r (fun j => j) (upU nu u) _ (fun i => i ≤ 1099511627776) hn (by omega) (Nat.lt_of_lt_of_le hl2 h5.size) (fun j hj => cell_grown (hcells j hj) hl2 h5) (fun j hj => Nat.le_trans (Nat.le_of_lt hj) hn) ⟨j0, hj0, hU0⟩ (ht4.grown h5)
    have hwl : w.heap.size + 1 < w4.heap.size := by omega
    clear hcells ht3 ht4 hb1' hs3 hs4 hL hL' hs2' hg2 hg3 hgw3 hg4
    go_region_with (first
      | (go_at_call 159; refine (rot159 _ sel h0 h1).mono ?_
         rintro e w5 ⟨r, hr, rfl, hg5⟩
         have hg45 := grown_trans (grown_drew0 w4) hg5
         have hgw5 := grown_trans hgw4 hg45
         have hb5 := cell_grown hb4 hwl hg45
         have hr0 : (0 : Int) ≤ (r : Int) := by omega
         have hr1 : (r : Int) ≤ 255 := by omega
         have hP := hPl w5 hg45 r hr
         have hcv := wrap_small hr)
      | (go_at_call 154; refine hP.mono ?_
         clear hP
         rintro e w6 ⟨j, hj, rfl, hg6⟩
         have hgw6 := grown_trans hgw5 hg6))
    all_goals go_wp2
    all_goals go_ret2
    all_goals exact ⟨j, true, by omega, rfl, hgw6⟩

end Go.Sx

namespace Go.Sx
open Go Go.Proofs

def handIv : List IV := [some (0, 2000), some (0, 9223372036854775807), some (0, 2000), some (0, 9223372036854775807), some (0, 255)]
def handRes : AV := .tup [.one (.int .i64 (.v 5)), .one (.bool (.eq (.v 6) (.c 1)))]

/-- a function of two lists and an octet that answers a number and a truth, shown by hand -/
theorem fnOK_hand {P : Program} {f e1 e2 : Nat} {c : Contract} (hiv : c.iv = handIv) (hpre : c.pre = [.le (.v 0) (.v 1), .le (.v 2) (.v 3)])
    (hparams : c.params = [.pv (.one (.slice false (.base e1) (.v 0) (.v 1))), .pv (.one (.slice false (.base e2) (.v 2) (.v 3))), .pv (.one (.int .u8 (.v 4)))])
    (hriv : c.riv = [some (-9223372036854775808, 9223372036854775807), some (0, 1)]) (hpost : c.post = []) (hres : c.res = handRes)
    (h : ∀ (χ : Chi) (w : World) (ao1 : Option Addr) (l1 c1 : Nat) (ao2 : Option Addr) (l2 c2 : Nat) (sel : Int), Inv P χ w → l1 ≤ 2000 → l2 ≤ 2000 → l1 ≤ c1 → l2 ≤ c2 → 0 ≤ sel → sel ≤ 255 →
      RowOK χ χ.A (tau P (.base e1)) ao1 c1 → RowOK χ χ.A (tau P (.base e2)) ao2 c2 →
      Calls P f #[.slice ao1 l1 c1, .slice ao2 l2 c2, .int .u8 sel] w fun e w' => ∃ (r : Nat) (b : Bool), r ≤ 1099511627776 ∧ e = .returned (.tuple #[.int .i64 (r : Int), .bool b]) ∧ w.grownBy w' none) : FnOK P f c := by
  intro χ w args hinv hargs hi hp _
  rw [hparams] at hargs
  rw [hiv] at hi
  obtain ⟨args⟩ := args
  match args, hargs with
  | [a, b, d], ⟨ha, hb, hd, _⟩ =>
    obtain ⟨ao1, l1, c1, rfl, p1, p2, p3, p4, p5⟩ := ha
    obtain ⟨ao2, l2, c2, rfl, q1, q2, q3, q4, q5⟩ := hb
    simp only [gAV, gPV, gSV, T.ev] at hd
    subst hd
    simp only [T.ev] at p1 p2 q1 q2
    obtain ⟨i0, _, i2, _, i4, _⟩ := hi
    replace i0 : 0 ≤ χ.ρ 0 ∧ χ.ρ 0 ≤ 2000 := i0
    replace i2 : 0 ≤ χ.ρ 2 ∧ χ.ρ 2 ≤ 2000 := i2
    replace i4 : 0 ≤ χ.ρ 4 ∧ χ.ρ 4 ≤ 255 := i4
    refine (h χ w ao1 l1 c1 ao2 l2 c2 (χ.ρ 4) hinv (by omega) (by omega) p3 q3 i4.1 i4.2 p5 q5).mono ?_
    rintro e w' ⟨r, bb, hr, rfl, hg⟩
    have hnv : c.nv = 5 := by simp [Contract.nv, hiv, handIv]
    refine ⟨_, χ.withρ (fun i => if i = 5 then (r : Int) else if i = 6 then (if bb then 1 else 0) else χ.ρ i), rfl, ⟨fun i hi => ?_, fun _ h => h, fun _ h => h, fun _ _ _ => rfl⟩, ?_, (hinv.same fun b hb => hg.block b (hinv.lt hb) (by simp)).withρ _, ?_, ?_, ?_⟩
    · rw [hnv] at hi
      simp only [Chi.withρ]
      rw [if_neg (by omega), if_neg (by omega)]
    · exact ⟨hg.os, hg.tape, hg.output, hg.size, fun b hb _ => hg.block b hb (by simp), fun _ h => .inl h, fun _ h => .inl h⟩
    · rw [hres]
      refine ⟨_, rfl, ?_, ?_, trivial⟩
      · simp [gPV, gSV, T.ev, Chi.withρ]
      · simp only [gPV, gSV, Fm.b, T.ev, Chi.withρ]
        cases bb <;> simp
    · rw [hriv, hnv]
      refine ⟨?_, ?_, trivial⟩
      · simp [Chi.withρ]; omega
      · simp only [Chi.withρ]; cases bb <;> simp
    · rw [hpost]; trivial

/-- a list's elements out of typed memory -/
theorem row_read {P : Program} {χ : Chi} {w : World} (hinv : Inv P χ w) {cts : List CT} {ao : Option Addr} {c l i : Nat} (h : RowOK χ χ.A cts ao c) (hlc : l ≤ c) (hi : i < l) (hc : 0 < cts.length) :
    ∃ b o, ao = some ⟨b, o, none⟩ ∧ b < w.heap.size ∧ ∀ q ct, cts[q]? = some ct → ∃ v, w.cell? ⟨b, o + i * cts.length + q, none⟩ = some v ∧ CellOK P χ χ.A ct v := by
  cases ao with
  | none => have : c = 0 := h; omega
  | some ad =>
    obtain ⟨b, o, sp⟩ := ad
    obtain ⟨h1, h2, h3⟩ := h
    simp only at h1 h2 h3
    subst h1
    refine ⟨b, o, rfl, hinv.lt h2, fun q ct hq => ?_⟩
    have hql : q < cts.length := by
      rcases Nat.lt_or_ge q cts.length with h | h
      · exact h
      · rw [List.getElem?_eq_none h] at hq; cases hq
    have hlt : i * cts.length + q < c * cts.length := by
      have : (i + 1) * cts.length ≤ c * cts.length := Nat.mul_le_mul_right _ (by omega)
      rw [Nat.succ_mul] at this; omega
    have hk := h3 _ hlt
    rw [Nat.mul_comm i, Nat.mul_add_mod, Nat.mod_eq_of_lt hql, hq] at hk
    obtain ⟨cs, E, fz, hb, hr⟩ := hinv.read (fr := false) h2
    obtain ⟨v, hv, hcell⟩ := hr _ _ hk
    refine ⟨v, ?_, hcell⟩
    rw [cell?_blk hb, Nat.mul_comm i, Nat.add_assoc]
    exact hv

theorem bools_read {P : Program} {χ : Chi} {w : World} (hinv : Inv P χ w) {ao : Option Addr} {c l : Nat} (h : RowOK χ χ.A [.bool] ao c) (hlc : l ≤ c) : ∃ u, BoolsAt w ao l u := by
  have hx : ∀ i, ∃ u : Bool, i < l → ∃ b o, ao = some ⟨b, o, none⟩ ∧ b < w.heap.size ∧ w.cell? ⟨b, o + i, none⟩ = some (.bool u) := fun i => by
    by_cases hi : i < l
    · obtain ⟨b, o, e, hb, hr⟩ := row_read hinv h hlc hi (by simp)
      obtain ⟨v, hv, u, rfl⟩ := hr 0 .bool rfl
      exact ⟨u, fun _ => ⟨b, o, e, hb, by simpa using hv⟩⟩
    · exact ⟨false, fun h => absurd h hi⟩
  exact ⟨fun i => Classical.choose (hx i), fun i hi => Classical.choose_spec (hx i) hi⟩

end Go.Sx

namespace Go.Sx
open Go Go.Proofs

theorem tau113 : tau Tryd.prog (.base 113) = [.int .u16 0 65535, .int .u16 0 65535, .int .u8 0 255] := by kernel_rfl
theorem tau4 : tau Tryd.prog (.base 4) = [.bool] := by kernel_rfl

theorem links_read {P : Program} {χ : Chi} {w : World} (hinv : Inv P χ w) {ao : Option Addr} {c l : Nat} (h : RowOK χ χ.A [.int .u16 0 65535, .int .u16 0 65535, .int .u8 0 255] ao c) (hlc : l ≤ c) :
    ∃ x0 x1 x2 : Nat → Int, ∀ i, i < l → ∃ b o, ao = some ⟨b, o, none⟩ ∧ b < w.heap.size ∧ w.cell? ⟨b, o + i * 3, none⟩ = some (.int .u16 (x0 i)) ∧ w.cell? ⟨b, o + i * 3 + 1, none⟩ = some (.int .u16 (x1 i)) ∧ w.cell? ⟨b, o + i * 3 + 2, none⟩ = some (.int .u8 (x2 i)) := by
  have hx : ∀ i, ∃ z : Int × Int × Int, i < l → ∃ b o, ao = some ⟨b, o, none⟩ ∧ b < w.heap.size ∧ w.cell? ⟨b, o + i * 3, none⟩ = some (.int .u16 z.1) ∧ w.cell? ⟨b, o + i * 3 + 1, none⟩ = some (.int .u16 z.2.1) ∧ w.cell? ⟨b, o + i * 3 + 2, none⟩ = some (.int .u8 z.2.2) := fun i => by
    by_cases hi : i < l
    · obtain ⟨b, o, e, hb, hr⟩ := row_read hinv h hlc hi (by simp)
      obtain ⟨v0, h0, z0, rfl, _⟩ := hr 0 _ rfl
      obtain ⟨v1, h1, z1, rfl, _⟩ := hr 1 _ rfl
      obtain ⟨v2, h2, z2, rfl, _⟩ := hr 2 _ rfl
      exact ⟨(z0, z1, z2), fun _ => ⟨b, o, e, hb, h0, h1, h2⟩⟩
    · exact ⟨(0, 0, 0), fun h => absurd h hi⟩
  exact ⟨fun i => (Classical.choose (hx i)).1, fun i => (Classical.choose (hx i)).2.1, fun i => (Classical.choose (hx i)).2.2, fun i hi => Classical.choose_spec (hx i) hi⟩

theorem hand52 : FnOK Tryd.prog 52 (conOf Tryd.prog 2000 1099511627776 false ((Tryd.prog.funcs[52]?).getD default)) :=
  fnOK_hand (e1 := 113) (e2 := 4) (by kernel_rfl) (by kernel_rfl) (by kernel_rfl) (by kernel_rfl) (by kernel_rfl) (by kernel_rfl) fun χ w ao1 l1 c1 ao2 l2 c2 sel hinv h1 h2 h3 h4 h5 h6 r1 r2 => by
    rw [tau113] at r1
    rw [tau4] at r2
    obtain ⟨x0, x1, x2, hl⟩ := links_read hinv r1 h3
    obtain ⟨u, hu⟩ := bools_read hinv r2 h4
    exact link52 w ao1 ao2 l1 c1 l2 c2 sel x0 x1 x2 u (by omega) (by omega) h5 h6 hl hu

end Go.Sx

namespace Go.Sx
open Go Go.Proofs

/-- a list of octets in memory -/
def OctsAt (w : World) (ao : Option Addr) (n : Nat) (u : Nat → Int) : Prop := ∀ i, i < n → ∃ b o, ao = some ⟨b, o, none⟩ ∧ b < w.heap.size ∧ w.cell? ⟨b, o + i, none⟩ = some (.int .u8 (u i))
theorem OctsAt.grown {w w' : World} {ao : Option Addr} {n : Nat} {u : Nat → Int} (h : OctsAt w ao n u) (hg : w.grownBy w' none) : OctsAt w' ao n u := fun i hi => by
  obtain ⟨b, o, e, hb, hc⟩ := h i hi
  exact ⟨b, o, e, Nat.lt_of_lt_of_le hb hg.size, cell_grown hc hb hg⟩

/-- the state of a place -/
def stS (ns : Nat) (st : Nat → Int) (i : Nat) : Int := if i < ns then min (st i) 2 else 2

def StatOK (P : Program) (w : World) (f : Nat) (caps : Array Value) (S : Nat → Int) : Prop :=
  callable P f = true ∧ ∀ w', w.grownBy w' none → ∀ i : Nat, i ≤ 1099511627776 → Calls P f (#[.int .i64 (i : Int)] ++ caps) w' fun e w'' => e = .returned (.int .u8 (S i)) ∧ w'.grownBy w'' none

set_option maxRecDepth 100000 in
set_option maxHeartbeats 1600000 in
theorem stat149 {w : World} {tb ns sc : Nat} {sao : Option Addr} {st : Nat → Int} (htb : tb < w.heap.size) (hns : ns ≤ 1099511627776) (hc : w.cell? ⟨tb, 0, none⟩ = some (.slice sao ns sc)) (hs : OctsAt w sao ns st) :
    StatOK Tryd.prog w 149 #[.pointer (some ⟨tb, 0, none⟩)] (stS ns st) := by
  refine ⟨by kernel_rfl, fun w' hg i hi => ?_⟩
  have hc' := cell_grown hc htb hg
  have hs' := hs.grown hg
  clear hc hs
  show Calls Tryd.prog 149 #[.int .i64 (i : Int), .pointer (some ⟨tb, 0, none⟩)] w' _
  by_cases hlt : i < ns
  · obtain ⟨b, o, rfl, hb, hx⟩ := hs' i hlt
    have hil : decide ((ns : Int) ≤ (i : Int)) = false := by simp; omega
    have hil2 : ¬ (ns : Int) ≤ (i : Int) := by omega
    have hi0 : (0 : Int) ≤ (i : Int) := by omega
    have hi1 : (i : Int) < (ns : Int) := by omega
    have hU : stS ns st i = min (st i) 2 := by simp [stS, hlt]
    rw [hU]
    go_enter Tryd.func149, Tryd.ntmps149
    go_wp2
    all_goals go_ret
    · exact ⟨congrArg (fun z => Ending.returned (Value.int .u8 z)) (show (2 : Int) = min (st i) 2 by omega), grown_refl _⟩
    · exact ⟨congrArg (fun z => Ending.returned (Value.int .u8 z)) (show st i = min (st i) 2 by omega), grown_refl _⟩
  · have hil : decide ((ns : Int) ≤ (i : Int)) = true := by simp; omega
    have hil2 : (ns : Int) ≤ (i : Int) := by omega
    have hU : stS ns st i = 2 := by simp [stS, hlt]
    rw [hU]
    go_enter Tryd.func149, Tryd.ntmps149
    go_wp2
    go_ret
    exact ⟨rfl, grown_refl _⟩

set_option maxRecDepth 100000 in
set_option maxHeartbeats 1600000 in
theorem test150 {w : World} {tb ub f : Nat} {caps : Array Value} {S : Nat → Int} {best : Int} (htb : tb < w.heap.size) (hub : ub < w.heap.size) (hc : w.cell? ⟨tb, 0, none⟩ = some (.func (.func f) #[] caps)) (hb : w.cell? ⟨ub, 0, none⟩ = some (.int .u8 best))
    (ht : StatOK Tryd.prog w f caps S) : Tests1 Tryd.prog w 150 #[.pointer (some ⟨tb, 0, none⟩), .pointer (some ⟨ub, 0, none⟩)] (fun i => i ≤ 1099511627776) (fun i => decide (S i = best)) := by
  obtain ⟨hcal, ht⟩ := ht
  obtain ⟨fn, hh, hbody, hname⟩ := callable_ok hcal
  have hcf := run_callFn hh hbody hname
  refine ⟨by kernel_rfl, fun w' hg i hi => ?_⟩
  have hc' : w'.drew.cell? ⟨tb, 0, none⟩ = some (.func (.func f) #[] caps) := cell_grown hc htb (grown_trans hg (grown_drew0 w'))
  have hb' : w'.drew.cell? ⟨ub, 0, none⟩ = some (.int .u8 best) := cell_grown hb hub (grown_trans hg (grown_drew0 w'))
  have hlt : ub < w'.drew.heap.size := Nat.lt_of_lt_of_le hub hg.size
  have h1 := ht w'.drew (grown_trans hg (grown_drew0 w')) i hi
  clear ht hc hb
  show Calls Tryd.prog 150 #[.int .i64 (i : Int), .pointer (some ⟨tb, 0, none⟩), .pointer (some ⟨ub, 0, none⟩)] w' _
  go_enter Tryd.func150, Tryd.ntmps150
  go_wp2
  go_region_with (refine h1.mono ?_; rintro e w2 ⟨rfl, hg2⟩; have hb2 := cell_grown hb' hlt hg2)
  all_goals go_wp2
  all_goals go_ret
  all_goals exact ⟨rfl, grown_trans (grown_drew0 w') hg2⟩

theorem test152 {w : World} {tb f n : Nat} {caps : Array Value} {S : Nat → Prop} {U : Nat → Bool} {x0 x1 : Nat → Int} (htb : tb < w.heap.size) (hc : w.cell? ⟨tb, 0, none⟩ = some (.func (.func f) #[] caps))
    (ht : Tests1 Tryd.prog w f caps S U) (hy : ∀ j, j < n → S j) : TestOK Tryd.prog w 152 #[.pointer (some ⟨tb, 0, none⟩)] n (fun i => .agg #[.int .u16 (x0 i), .int .i64 (x1 i)]) U := by
  obtain ⟨hcal, ht⟩ := ht
  obtain ⟨fn, hh, hbody, hname⟩ := callable_ok hcal
  have hcf := run_callFn hh hbody hname
  refine ⟨by kernel_rfl, fun w' hg i hi => ?_⟩
  have hg1 := grown_trans hg (grown_alloc w' (.cells #[.int .u16 (x0 i), .int .i64 (x1 i)] 221))
  have hc' := cell_grown hc htb hg1
  have h1 := ht _ hg1 i (hy i hi)
  clear ht hy hc
  show Calls Tryd.prog 152 #[.int .i64 (i : Int), .agg #[.int .u16 (x0 i), .int .i64 (x1 i)], .pointer (some ⟨tb, 0, none⟩)] w' _
  go_enter Tryd.func152, Tryd.ntmps152
  go_wp2_with (refine h1.mono ?_; clear h1; rintro e w2 ⟨rfl, hg2⟩)
  go_ret
  exact ⟨rfl, grown_trans (grown_alloc w' _) hg2⟩

theorem test153 {w : World} {rb n : Nat} {rank : Int} {x0 x1 : Nat → Int} (hrb : rb < w.heap.size) (hc : w.cell? ⟨rb, 0, none⟩ = some (.int .i64 rank)) :
    TestOK Tryd.prog w 153 #[.pointer (some ⟨rb, 0, none⟩)] n (fun i => .agg #[.int .u16 (x0 i), .int .i64 (x1 i)]) (fun i => decide (x1 i = rank)) := by
  refine ⟨by kernel_rfl, fun w' hg i hi => ?_⟩
  have hg1 := grown_trans hg (grown_alloc w' (.cells #[.int .u16 (x0 i), .int .i64 (x1 i)] 221))
  have hc' := cell_grown hc hrb hg1
  clear hc
  show Calls Tryd.prog 153 #[.int .i64 (i : Int), .agg #[.int .u16 (x0 i), .int .i64 (x1 i)], .pointer (some ⟨rb, 0, none⟩)] w' _
  go_enter Tryd.func153, Tryd.ntmps153
  go_wp2
  go_ret
  exact ⟨rfl, grown_alloc w' _⟩

end Go.Sx

namespace Go.Sx
open Go Go.Proofs

/-- the least of 2 and the first states -/
def minS (S : Nat → Int) : Nat → Int
  | 0 => 2
  | j + 1 => min (minS S j) (S j)

theorem minS_att (S : Nat → Int) : ∀ n, minS S n = 2 ∨ ∃ i, i < n ∧ S i = minS S n := by
  intro n
  induction n with
  | zero => exact .inl rfl
  | succ n ih =>
    simp only [minS]
    rcases Int.le_total (minS S n) (S n) with h | h
    · rw [Int.min_eq_left h]
      rcases ih with e | ⟨i, hi, e⟩
      · exact .inl e
      · exact .inr ⟨i, by omega, e⟩
    · rw [Int.min_eq_right h]
      exact .inr ⟨n, by omega, rfl⟩

theorem minS_range {S : Nat → Int} (h : ∀ i, 0 ≤ S i) : ∀ n, 0 ≤ minS S n ∧ minS S n ≤ 2 := by
  intro n
  induction n with
  | zero => simp [minS]
  | succ n ih => have := h n; simp only [minS]; omega

/-- the least of the first ranks -/
def minR (y : Nat → Int) : Nat → Int
  | 0 => y 0
  | j + 1 => min (minR y j) (y j)

theorem minR_att (y : Nat → Int) : ∀ n, 0 < n → ∃ j, j < n ∧ y j = minR y n := by
  intro n
  induction n with
  | zero => intro h; omega
  | succ n ih =>
    intro _
    simp only [minR]
    rcases Nat.eq_zero_or_pos n with rfl | h
    · exact ⟨0, by omega, by simp [minR]⟩
    · obtain ⟨j, hj, e⟩ := ih h
      rcases Int.le_total (minR y n) (y n) with h | h
      · rw [Int.min_eq_left h]; exact ⟨j, by omega, e⟩
      · rw [Int.min_eq_right h]; exact ⟨n, by omega, rfl⟩

theorem stS_range {ns : Nat} {st : Nat → Int} (h : ∀ i, i < ns → 0 ≤ st i) : ∀ i, 0 ≤ stS ns st i := by
  intro i
  unfold stS
  split
  · rename_i hi; have := h i hi; omega
  · omega

/-- Next's variables, made: the box of the states, the state's function, the best -/
structure NextAt (w w2 w3 : World) (sao : Option Addr) (ns sc : Nat) : Prop where
  g2 : w.grownBy w2 none
  s2 : w2.heap.size = w.heap.size + 2
  c0 : w2.cell? ⟨w.heap.size, 0, none⟩ = some (.slice sao ns sc)
  c1 : w2.cell? ⟨w.heap.size + 1, 0, none⟩ = some (.func (.func 149) #[] #[.pointer (some ⟨w.heap.size, 0, none⟩)])
  e3 : w3 = w2.alloc (.cells #[.int .u8 2] 223)

theorem nextAt (w : World) (sao : Option Addr) (ns sc : Nat) :
    NextAt w ((w.alloc (.cells #[.slice sao ns sc] 89)).alloc (.cells #[.func (.func 149) #[] #[.pointer (some ⟨w.heap.size, 0, none⟩)]] 234))
      (((w.alloc (.cells #[.slice sao ns sc] 89)).alloc (.cells #[.func (.func 149) #[] #[.pointer (some ⟨w.heap.size, 0, none⟩)]] 234)).alloc (.cells #[.int .u8 2] 223)) sao ns sc := by
  have hs1 := alloc_size w (.cells #[.slice sao ns sc] 89)
  have hs2 := alloc_size (w.alloc (.cells #[.slice sao ns sc] 89)) (.cells #[.func (.func 149) #[] #[.pointer (some ⟨w.heap.size, 0, none⟩)]] 234)
  refine ⟨grown_trans (grown_alloc w _) (grown_alloc _ _), by omega, ?_, ?_, rfl⟩
  · rw [cell?_blk (by rw [alloc_get, if_neg (by omega), alloc_get, if_pos rfl])]; rfl
  · rw [cell?_blk (by rw [alloc_get, if_pos hs1.symm])]; rfl

end Go.Sx

namespace Go.Sx
open Go Go.Proofs

theorem setCell_one {w : World} {c E : Nat} {z v : Value} (hb : w.heap[c]? = some (.cells #[z] E (0, 0))) : w.grownBy (w.setCell ⟨c, 0, none⟩ v) (some c) ∧ (w.setCell ⟨c, 0, none⟩ v).heap[c]? = some (.cells #[v] E (0, 0)) := by
  have hlt := lt_of_blk hb
  rw [setCell_blk hb]
  exact ⟨⟨rfl, rfl, rfl, by rw [setBlk_size]; exact Nat.le_refl _, fun k hk hn => by rw [setBlk_get hlt, if_neg (fun e => hn (by rw [e]))]⟩, by rw [setBlk_get hlt, if_pos rfl]; rfl⟩

theorem minS_step (S : Nat → Int) (j : Nat) : (if S j < minS S j then S j else minS S j) = minS S (j + 1) := by
  simp only [minS]
  split <;> omega

theorem minR_step (y : Nat → Int) (j : Nat) : (if y j < minR y j then y j else minR y j) = minR y (j + 1) := by
  simp only [minR]
  split <;> omega

set_option maxRecDepth 100000 in
set_option maxHeartbeats 3200000 in
theorem next50 (w : World) (lao sao : Option Addr) (n lc ns sc : Nat) (sel : Int) (x0 x1 : Nat → Int) (st : Nat → Int) (hn : n ≤ 1099511627776) (hns : ns ≤ 1099511627776) (h0 : 0 ≤ sel) (h1 : sel ≤ 255)
    (hrow : ∀ i, i < n → ∃ b o, lao = some ⟨b, o, none⟩ ∧ b < w.heap.size ∧ w.cell? ⟨b, o + i * 2, none⟩ = some (.int .u16 (x0 i)) ∧ w.cell? ⟨b, o + i * 2 + 1, none⟩ = some (.int .i64 (x1 i)))
    (hs : OctsAt w sao ns st) (hst : ∀ i, i < ns → 0 ≤ st i) :
    Calls Tryd.prog 50 #[.slice lao n lc, .slice sao ns sc, .int .u8 sel] w fun e w' => ∃ (r : Nat) (b : Bool), r ≤ 1099511627776 ∧ e = .returned (.tuple #[.int .i64 (r : Int), .bool b]) ∧ w.grownBy w' none := by
  have hN := nextAt w sao ns sc
  have hs1 := alloc_size w (.cells #[.slice sao ns sc] 89)
  have hst1 := store_fresh1 (P := Tryd.prog) (w := w.alloc (.cells #[.slice sao ns sc] 89)) (b := w.heap.size + 1) (E := 234) (z := .nilFunc) (v := .func (.func 149) #[] #[.pointer (some ⟨w.heap.size, 0, none⟩)]) hs1.symm rfl
  have hst2 := store_fresh1 (P := Tryd.prog) (w := (w.alloc (.cells #[.slice sao ns sc] 89)).alloc (.cells #[.func (.func 149) #[] #[.pointer (some ⟨w.heap.size, 0, none⟩)]] 234)) (b := w.heap.size + 2) (E := 223) (z := .int .u8 0) (v := .int .u8 2) hN.s2.symm rfl
  generalize hw2 : (w.alloc (.cells #[.slice sao ns sc] 89)).alloc (.cells #[.func (.func 149) #[] #[.pointer (some ⟨w.heap.size, 0, none⟩)]] 234) = w2 at *
  have hstat := stat149 (by have := hN.s2; omega) hns hN.c0 (hs.grown hN.g2)
  have hsz2 := hN.s2
  go_enter Tryd.func50, Tryd.ntmps50
  go_wp2
  have hS0 := stS_range hst
  have hw3 : (w2.alloc (.cells #[.int .u8 2] 223)).heap[w.heap.size + 2]? = some (.cells #[.int .u8 2] 223 (0, 0)) := by rw [alloc_get, if_pos hsz2.symm]
  go_loopg [20] n (fun k q wr => ∃ j : Nat, j + k = n ∧ q = .int .i64 j ∧ w2.grownBy wr none ∧ wr.heap[w.heap.size + 2]? = some (.cells #[.int .u8 (minS (stS ns st) j)] 223 (0, 0)))
  case atStart => exact ⟨0, by simp, rfl, grown_alloc w2 _, hw3⟩
  case round =>
    obtain ⟨j, hjk, rfl, hg, hcb⟩ := hrel
    cases gk with
    | zero =>
      have hil : decide (j < n) = false := by simp; omega
      obtain rfl : j = n := by omega
      have hc2 : wr.cell? ⟨w.heap.size + 2, 0, none⟩ = some (.int .u8 (minS (stS ns st) j)) := by rw [cell?_blk hcb]; rfl
      have hgw := grown_trans hN.g2 hg
      have hatt := minS_att (stS ns st) j
      obtain ⟨m0, m1⟩ := minS_range hS0 j
      have hc1r : wr.cell? ⟨w.heap.size + 1, 0, none⟩ = some (.func (.func 149) #[] #[.pointer (some ⟨w.heap.size, 0, none⟩)]) := cell_grown hN.c1 (by omega) hg
      have hsr := hg.size
      have hltb := lt_of_blk hcb
      have hst3 := store_fresh1 (P := Tryd.prog) (w := wr) (b := wr.heap.size) (E := 235) (z := .nilFunc) (v := .func (.func 150) #[] #[.pointer (some ⟨w.heap.size + 1, 0, none⟩), .pointer (some ⟨w.heap.size + 2, 0, none⟩)]) rfl rfl
      have hga := grown_alloc wr (.cells #[.func (.func 150) #[] #[.pointer (some ⟨w.heap.size + 1, 0, none⟩), .pointer (some ⟨w.heap.size + 2, 0, none⟩)]] 235)
      have hsa := alloc_size wr (.cells #[.func (.func 150) #[] #[.pointer (some ⟨w.heap.size + 1, 0, none⟩), .pointer (some ⟨w.heap.size + 2, 0, none⟩)]] 235)
      have hc3 : (wr.alloc (.cells #[.func (.func 150) #[] #[.pointer (some ⟨w.heap.size + 1, 0, none⟩), .pointer (some ⟨w.heap.size + 2, 0, none⟩)]] 235)).cell? ⟨wr.heap.size, 0, none⟩ = some (.func (.func 150) #[] #[.pointer (some ⟨w.heap.size + 1, 0, none⟩), .pointer (some ⟨w.heap.size + 2, 0, none⟩)]) := by
        rw [cell?_blk (by rw [alloc_get, if_pos rfl])]; rfl
      generalize hw4 : wr.alloc (.cells #[.func (.func 150) #[] #[.pointer (some ⟨w.heap.size + 1, 0, none⟩), .pointer (some ⟨w.heap.size + 2, 0, none⟩)]] 235) = w4 at *
      clear hst1 hst2 hw2 hw3 hw4
      go_wp2_with fail
      · go_ret2
        exact ⟨0, false, by omega, rfl, hgw⟩
      · have hne2 : minS (stS ns st) j ≠ 2 := by
          intro h
          simp_all
        obtain ⟨i0, hi0, hiS⟩ := hatt.resolve_left hne2
        obtain ⟨b, o, rfl, hbl, _, _⟩ := hrow i0 hi0
        have hxc : ∀ i, i < j → w.cell? ⟨b, o + i * 2, none⟩ = some (.int .u16 (x0 i)) ∧ w.cell? ⟨b, o + i * 2 + 1, none⟩ = some (.int .i64 (x1 i)) := fun i hi => by
          obtain ⟨b', o', e, _, c0, c1⟩ := hrow i hi
          cases e
          exact ⟨c0, c1⟩
        have hrows : ∀ w', w.grownBy w' none → ∀ i, i < j → ∃ b' o', (some ⟨b, o, none⟩ : Option Addr) = some ⟨b', o', none⟩ ∧ b' < w'.heap.size ∧ w'.cell? ⟨b', o' + i * 2, none⟩ = some (.int .u16 (x0 i)) ∧ w'.cell? ⟨b', o' + i * 2 + 1, none⟩ = some (.int .i64 (x1 i)) := fun w' hg i hi =>
          ⟨b, o, rfl, Nat.lt_of_lt_of_le hbl hg.size, cell_grown (hxc i hi).1 hbl hg, cell_grown (hxc i hi).2 hbl hg⟩
        clear hrow hs
        have hg4 := grown_trans hg hga
        have hgw4 := grown_trans hgw hga
        have hu4 := test150 (tb := w.heap.size + 1) (ub := w.heap.size + 2) (w := w4) (S := stS ns st) (best := minS (stS ns st) j) (by omega) (by omega) (cell_grown hc1r (by omega) hga) (cell_grown hc2 hltb hga) ⟨hstat.1, fun w' h => hstat.2 w' (grown_trans hg4 h)⟩
        have hA := which151 w4 (some ⟨b, o, none⟩) j lc 152 x0 x1 _ _ hn (hrows _ hgw4) (test152 (tb := wr.heap.size) (n := j) (x0 := x0) (x1 := x1) (by omega) hc3 hu4 (fun i hi => by omega))
        have hUd : ∀ i, i < j → stS ns st i = minS (stS ns st) j → i ∈ wL (fun i => decide (stS ns st i = minS (stS ns st) j)) j := fun i h1 h2 => wL_mem.2 ⟨h1, by simpa using h2⟩
        have hmem := hUd i0 hi0 hiS
        have hin0 : ∀ r, r ∈ wL (fun i => decide (stS ns st i = minS (stS ns st) j)) j → r < j ∧ stS ns st r = minS (stS ns st) j := fun r hr => ⟨(wL_mem.1 hr).1, by simpa using (wL_mem.1 hr).2⟩
        generalize hU : (fun i => decide (stS ns st i = minS (stS ns st) j)) = U at *
        have hUt : ∀ i, stS ns st i = minS (stS ns st) j → U i = true := fun i hi => by rw [← hU]; simpa using hi
        clear hU hUd hN hstat hc2 hcb m0 m1
        go_at_call 151
        refine hA.mono ?_
        clear hA
        rintro e w5 ⟨v, rfl, hg5, hown⟩
        have hgw5 := grown_trans hgw4 hg5
        have hlen : 0 < (wL U j).length := List.length_pos_of_mem hmem
        have hll := wL_le U j
        obtain ⟨g, cap, rfl, hb2, hl2⟩ := hown.form hlen
        have hgc : ∀ r, r < (wL U j).length → w5.cell? ⟨g, r, none⟩ = some (.int .i64 (((wL U j)[r]?.getD 0 : Nat) : Int)) := fun r hr => by
          rw [hown.cellAt r (by omega)]
          simp [wV, hr]
        have hin : ∀ r, r < (wL U j).length → (wL U j)[r]?.getD 0 < j ∧ stS ns st ((wL U j)[r]?.getD 0) = minS (stS ns st) j := fun r hr => by
          rw [List.getElem?_eq_getElem hr]; exact hin0 _ (List.getElem_mem hr)
        obtain ⟨z, hzz⟩ : ∃ z : Nat → Nat, ∀ r : Nat, (wL U j)[r]?.getD 0 = z r := ⟨_, fun _ => rfl⟩
        simp only [hzz] at hgc hin
        clear hzz hown hmem hin0
        generalize (wL U j).length = L at *
        have hgc0 := hgc 0 hlen
        have hz0 := (hin 0 hlen).1
        have hzj0 : (0 : Int) ≤ (z 0 : Int) := by omega
        have hzj1 : (z 0 : Int) < (j : Int) := by omega
        have hL0 : (0 : Int) < (L : Int) := by omega
        have hx5 : w5.cell? ⟨b, o + z 0 * 2 + 1, none⟩ = some (.int .i64 (x1 (z 0))) := cell_grown (hxc _ hz0).2 hbl hgw5
        have hst5 := store_fresh1 (P := Tryd.prog) (w := w5) (b := w5.heap.size) (E := 3) (z := .int .i64 0) (v := .int .i64 (x1 (z 0))) rfl rfl
        have hga6 := grown_alloc w5 (.cells #[.int .i64 (x1 (z 0))] 3)
        have hb6 : (w5.alloc (.cells #[.int .i64 (x1 (z 0))] 3)).heap[w5.heap.size]? = some (.cells #[.int .i64 (minR (fun r => x1 (z r)) 0)] 3 (0, 0)) := by rw [alloc_get, if_pos rfl]; rfl
        generalize hw6 : w5.alloc (.cells #[.int .i64 (x1 (z 0))] 3) = w6 at *
        go_wp2_with fail
        clear hgc0 hx5 hst5
        generalize hB3 : wr.heap.size = B3 at *
        go_loopg [44] L (fun k q wq => ∃ i : Nat, i + k = L ∧ q = .int .i64 i ∧ w5.grownBy wq none ∧ wq.heap[w5.heap.size]? = some (.cells #[.int .i64 (minR (fun r => x1 (z r)) i)] 3 (0, 0)))
        case atStart => exact ⟨0, by simp, rfl, hga6, hb6⟩
        case round =>
          obtain ⟨i, hik, rfl, hgq, hcq⟩ := hrel
          have hgwr := grown_trans hgw5 hgq
          have hltr := lt_of_blk hcq
          cases gk with
          | zero =>
            have hil : decide (i < L) = false := by simp; omega
            obtain rfl : i = L := by omega
            obtain ⟨r0, hr0, hr0e⟩ := minR_att (fun r => x1 (z r)) i hlen
            have hcc : wr.cell? ⟨w5.heap.size, 0, none⟩ = some (.int .i64 (minR (fun r => x1 (z r)) i)) := by rw [cell?_blk hcq]; rfl
            have hA2 := which151 wr (some ⟨b, o, none⟩) j lc 153 x0 x1 _ _ hn (hrows _ hgwr) (test153 (rb := w5.heap.size) (n := j) (x0 := x0) (x1 := x1) hltr hcc)
            have hmem2 : z r0 ∈ wL (fun i' => decide (x1 i' = minR (fun r => x1 (z r)) i)) j := wL_mem.2 ⟨(hin r0 hr0).1, by simpa using hr0e⟩
            have hUz := hUt _ (hin r0 hr0).2
            have hin2 : ∀ r, r ∈ wL (fun i' => decide (x1 i' = minR (fun r => x1 (z r)) i)) j → r < j := fun r hr => (wL_mem.1 hr).1
            generalize hp2 : (fun i' => decide (x1 i' = minR (fun r => x1 (z r)) i)) = p2 at *
            have hg4q := grown_trans hg5 hgq
            have hs4q := hg4q.size
            have hc3q := cell_grown hc3 (by omega) hg4q
            have hu5 := hu4.grown hg4q
            obtain ⟨q, hq⟩ : ∃ q : Nat, sel % 16 = (q : Int) := ⟨(sel % 16).toNat, by omega⟩
            have hq15 : q ≤ 15 := by omega
            have hcv := wrap_small (r := q) (by omega)
            clear hik hgc hz0 hzj0 hzj1 hp2 hin hUt hrows hc1r hu4 hc3 hcc hr0e hxc hb6
            go_wp2_with fail
            go_at_call 151
            refine hA2.mono ?_
            clear hA2
            rintro e w7 ⟨v, rfl, hg7, hown⟩
            have hgw7 := grown_trans hgwr hg7
            have hlen2 : 0 < (wL p2 j).length := List.length_pos_of_mem hmem2
            have hll2 := wL_le p2 j
            obtain ⟨g2, cap2, rfl, hb7, hl7⟩ := hown.form hlen2
            have hgc2 : ∀ r, r < (wL p2 j).length → w7.cell? ⟨g2, r, none⟩ = some (.int .i64 (((wL p2 j)[r]?.getD 0 : Nat) : Int)) := fun r hr => by
              rw [hown.cellAt r (by omega)]
              simp [wV, hr]
            have hin3 : ∀ r, r < (wL p2 j).length → (wL p2 j)[r]?.getD 0 < j := fun r hr => by
              rw [List.getElem?_eq_getElem hr]; exact hin2 _ (List.getElem_mem hr)
            have hne3 : ∃ r, r < (wL p2 j).length ∧ U ((wL p2 j)[r]?.getD 0) = true := by
              obtain ⟨r1, hr1, hr1e⟩ := List.mem_iff_getElem.1 hmem2
              exact ⟨r1, hr1, by rw [List.getElem?_eq_getElem hr1, Option.getD_some, hr1e]; exact hUz⟩
            obtain ⟨z2, hzz⟩ : ∃ z2 : Nat → Nat, ∀ r : Nat, (wL p2 j)[r]?.getD 0 = z2 r := ⟨_, fun _ => rfl⟩
            simp only [hzz] at hgc2 hin3 hne3
            clear hzz hown hmem2 hin2
            generalize (wL p2 j).length = M at *
            have hP := place154 w7 g2 M cap2 150 q z2 U _ (fun i => i ≤ 1099511627776) (by omega) (by omega) hl7 hgc2 (fun r hr => by have := hin3 r hr; omega) hne3 (hu5.grown hg7)
            have hc7 := cell_grown hc3q (by omega) hg7
            clear hgc2 hne3 hu5
            go_wp2_with fail
            go_at_call 154
            refine hP.mono ?_
            clear hP
            rintro e w8 ⟨r, hr, rfl, hg8⟩
            have hz2 := hin3 r hr
            have hgw8 := grown_trans hgw7 hg8
            clear hin3
            go_wp2
            go_ret2
            exact ⟨z2 r, true, by omega, rfl, hgw8⟩
          | succ k =>
            have hil : decide (i < L) = true := by simp; omega
            have hlt : i < L := by omega
            have hi1 : (i : Int) < (L : Int) := by omega
            have hi0' : (0 : Int) ≤ (i : Int) := by omega
            have hi40 : (i : Int) ≤ 1099511627776 := by omega
            have hzi := (hin i hlt).1
            have hzi0 : (0 : Int) ≤ (z i : Int) := by omega
            have hzi1 : (z i : Int) < (j : Int) := by omega
            have hfi := cell_grown (hgc i hlt) hl2 hgq
            have hgd := grown_trans hgwr (grown_drew0 wr)
            have hxd : wr.drew.cell? ⟨b, o + z i * 2 + 1, none⟩ = some (.int .i64 (x1 (z i))) := cell_grown (hxc _ hzi).2 hbl hgd
            have hcd : wr.drew.heap[w5.heap.size]? = some (.cells #[.int .i64 (minR (fun r => x1 (z r)) i)] 3 (0, 0)) := hcq
            have hcc : wr.drew.cell? ⟨w5.heap.size, 0, none⟩ = some (.int .i64 (minR (fun r => x1 (z r)) i)) := by rw [cell?_blk hcd]; rfl
            have hfz : wr.drew.frozen? ⟨w5.heap.size, 0, none⟩ = false := by rw [frozen?_blk hcd]; simp
            clear hst3 hgc hin hxc hrows hu4
            go_wp2
            go_region
            all_goals
              rw [minR_step (fun r => x1 (z r))]
              obtain ⟨k1, k2⟩ := setCell_one (v := .int .i64 (minR (fun r => x1 (z r)) (i + 1))) hcq
              have hg6 := grown_trans (grown_above (v := .slice (some ⟨w5.heap.size, 0, none⟩) 0 0) hgq k1 (fun k hk => by cases hk; exact Nat.le_refl _)) (grown_drew0 _)
              have k3 : (wr.setCell ⟨w5.heap.size, 0, none⟩ (.int .i64 (minR (fun r => x1 (z r)) (i + 1)))).drew.heap[w5.heap.size]? = some (.cells #[.int .i64 (minR (fun r => x1 (z r)) (i + 1))] 3 (0, 0)) := k2
              clear hcc hfz k1 k2
              go_wp2
              go_roundg k <;> first | omega | exact ⟨i + 1, by omega, by go_num, hg6, k3⟩
    | succ k =>
      have hil : decide (j < n) = true := by simp; omega
      have hlt : j < n := by omega
      have hi1 : (j : Int) < (n : Int) := by omega
      have hi40 : (j : Int) ≤ 1099511627776 := by omega
      have hgd := grown_trans hg (grown_drew0 wr)
      have hc1 : wr.drew.cell? ⟨w.heap.size + 1, 0, none⟩ = some (.func (.func 149) #[] #[.pointer (some ⟨w.heap.size, 0, none⟩)]) := cell_grown hN.c1 (by omega) hgd
      have hcd : wr.drew.heap[w.heap.size + 2]? = some (.cells #[.int .u8 (minS (stS ns st) j)] 223 (0, 0)) := hcb
      have hc2 : wr.drew.cell? ⟨w.heap.size + 2, 0, none⟩ = some (.int .u8 (minS (stS ns st) j)) := by rw [cell?_blk hcd]; rfl
      have hcall := hstat.2 wr.drew hgd j (by omega)
      have hltb := lt_of_blk hcd
      clear hrow hs hst1 hst2 hw2
      go_wp2
      go_region_with (refine hcall.mono ?_; rintro e w5 ⟨rfl, hg5⟩; have hb5 := (hg5.block _ hltb (by simp)).trans hcd; have hc5 : w5.cell? ⟨w.heap.size + 2, 0, none⟩ = some (.int .u8 (minS (stS ns st) j)) := by { rw [cell?_blk hb5]; rfl }; have hf5 : w5.frozen? ⟨w.heap.size + 2, 0, none⟩ = false := by { rw [frozen?_blk hb5]; simp })
      all_goals
        rw [minS_step]
        obtain ⟨k1, k2⟩ := setCell_one (v := .int .u8 (minS (stS ns st) (j + 1))) hb5
        have hg6 := grown_above (v := .slice (some ⟨w.heap.size + 2, 0, none⟩) 0 0) (grown_trans hgd hg5) k1 (fun k hk => by cases hk; show w2.heap.size ≤ w.heap.size + 2; omega)
        generalize w5.setCell ⟨w.heap.size + 2, 0, none⟩ (.int .u8 (minS (stS ns st) (j + 1))) = w6 at *
        clear hb5 hc5 hf5 k1
        go_wp2
        go_roundg k <;> first | omega | exact ⟨j + 1, by omega, by go_num, hg6, k2⟩

end Go.Sx

namespace Go.Sx
open Go Go.Proofs

theorem tau221 : tau Tryd.prog (.base 221) = [.int .u16 0 65535, .int .i64 (-9223372036854775808) 9223372036854775807] := by kernel_rfl
theorem tau223 : tau Tryd.prog (.base 223) = [.int .u8 0 255] := by kernel_rfl

theorem choices_read {P : Program} {χ : Chi} {w : World} (hinv : Inv P χ w) {ao : Option Addr} {c l : Nat} (h : RowOK χ χ.A [.int .u16 0 65535, .int .i64 (-9223372036854775808) 9223372036854775807] ao c) (hlc : l ≤ c) :
    ∃ x0 x1 : Nat → Int, ∀ i, i < l → ∃ b o, ao = some ⟨b, o, none⟩ ∧ b < w.heap.size ∧ w.cell? ⟨b, o + i * 2, none⟩ = some (.int .u16 (x0 i)) ∧ w.cell? ⟨b, o + i * 2 + 1, none⟩ = some (.int .i64 (x1 i)) := by
  have hx : ∀ i, ∃ z : Int × Int, i < l → ∃ b o, ao = some ⟨b, o, none⟩ ∧ b < w.heap.size ∧ w.cell? ⟨b, o + i * 2, none⟩ = some (.int .u16 z.1) ∧ w.cell? ⟨b, o + i * 2 + 1, none⟩ = some (.int .i64 z.2) := fun i => by
    by_cases hi : i < l
    · obtain ⟨b, o, e, hb, hr⟩ := row_read hinv h hlc hi (by simp)
      obtain ⟨v0, h0, z0, rfl, _⟩ := hr 0 _ rfl
      obtain ⟨v1, h1, z1, rfl, _⟩ := hr 1 _ rfl
      exact ⟨(z0, z1), fun _ => ⟨b, o, e, hb, h0, h1⟩⟩
    · exact ⟨(0, 0), fun h => absurd h hi⟩
  exact ⟨fun i => (Classical.choose (hx i)).1, fun i => (Classical.choose (hx i)).2, fun i hi => Classical.choose_spec (hx i) hi⟩

theorem octs_read {P : Program} {χ : Chi} {w : World} (hinv : Inv P χ w) {ao : Option Addr} {c l : Nat} (h : RowOK χ χ.A [.int .u8 0 255] ao c) (hlc : l ≤ c) : ∃ u, OctsAt w ao l u ∧ ∀ i, i < l → 0 ≤ u i := by
  have hx : ∀ i, ∃ u : Int, i < l → 0 ≤ u ∧ ∃ b o, ao = some ⟨b, o, none⟩ ∧ b < w.heap.size ∧ w.cell? ⟨b, o + i, none⟩ = some (.int .u8 u) := fun i => by
    by_cases hi : i < l
    · obtain ⟨b, o, e, hb, hr⟩ := row_read hinv h hlc hi (by simp)
      obtain ⟨v, hv, u, rfl, h0, _⟩ := hr 0 _ rfl
      exact ⟨u, fun _ => ⟨h0, b, o, e, hb, by simpa using hv⟩⟩
    · exact ⟨0, fun h => absurd h hi⟩
  exact ⟨fun i => Classical.choose (hx i), fun i hi => (Classical.choose_spec (hx i) hi).2, fun i hi => (Classical.choose_spec (hx i) hi).1⟩

theorem hand50 : FnOK Tryd.prog 50 (conOf Tryd.prog 2000 1099511627776 false ((Tryd.prog.funcs[50]?).getD default)) :=
  fnOK_hand (e1 := 221) (e2 := 223) (by kernel_rfl) (by kernel_rfl) (by kernel_rfl) (by kernel_rfl) (by kernel_rfl) (by kernel_rfl) fun χ w ao1 l1 c1 ao2 l2 c2 sel hinv h1 h2 h3 h4 h5 h6 r1 r2 => by
    rw [tau221] at r1
    rw [tau223] at r2
    obtain ⟨x0, x1, hl⟩ := choices_read hinv r1 h3
    obtain ⟨u, hu, hu0⟩ := octs_read hinv r2 h4
    exact next50 w ao1 ao2 l1 c1 l2 c2 sel x0 x1 u (by omega) (by omega) h5 h6 hl hu hu0

end Go.Sx


