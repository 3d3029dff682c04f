/- Part ThA of a proof: helper lemmas; no conditions. -/
import Derived.Test.YtnnaehcmchndmaaGreatDoorTiA
import Derived.Test.YtnnaehcmchndmaaGreatDoorHnD
import Derived.WalkSmall
import Derived.Deep.Cut
import Derived.Deep.CutBlock
import Derived.Deep.DeepCutAuto
import Derived.Maps.OwnOps
import Derived.Carry

set_option linter.unusedSimpArgs false
set_option linter.unusedVariables false

namespace Go.Sx
open Go Go.Proofs

structure RV where
  p : ByteArray
  a : Bool
  wi : ByteArray
  pt : Int
  su : Int

def RV.v (r : RV) : Array Value := #[.string r.p, .bool r.a, .string r.wi, .int .u16 r.pt, .int .u8 r.su]
abbrev ruleC : List CT := [.str, .bool, .str, .int .u16 0 65535, .int .u8 0 255]
theorem tauRule : tau Tryz.prog (.base 324) = ruleC := by kernel_rfl

structure RVok (r : RV) : Prop where
  p : r.p.size ≤ 1099511627776
  wi : r.wi.size ≤ 1099511627776
  pt : 0 ≤ r.pt ∧ r.pt ≤ 65535
  su : 0 ≤ r.su ∧ r.su ≤ 255

def RulesAt (w : World) (ao : Option Addr) (n : Nat) (rs : Nat → RV) : Prop := ∀ i, i < n → RVok (rs i) ∧ ∃ b o, ao = some ⟨b, o, none⟩ ∧ b < w.heap.size ∧
  w.cell? ⟨b, o + i * 5, none⟩ = some (.string (rs i).p) ∧ w.cell? ⟨b, o + i * 5 + 1, none⟩ = some (.bool (rs i).a) ∧ w.cell? ⟨b, o + i * 5 + 2, none⟩ = some (.string (rs i).wi) ∧
  w.cell? ⟨b, o + i * 5 + 3, none⟩ = some (.int .u16 (rs i).pt) ∧ w.cell? ⟨b, o + i * 5 + 4, none⟩ = some (.int .u8 (rs i).su)

theorem RulesAt.grown {w w' : World} {ao : Option Addr} {n : Nat} {rs : Nat → RV} (h : RulesAt w ao n rs) (hg : w.grownBy w' none) : RulesAt w' ao n rs := fun i hi => by
  obtain ⟨h0, b, o, e, hb, h1, h2, h3, h4, h5⟩ := h i hi
  exact ⟨h0, b, o, e, Nat.lt_of_lt_of_le hb hg.size, cell_grown h1 hb hg, cell_grown h2 hb hg, cell_grown h3 hb hg, cell_grown h4 hb hg, cell_grown h5 hb hg⟩

theorem rules_read {χ : Chi} {w : World} (hinv : Inv Tryz.prog χ w) {ao : Option Addr} {l c : Nat} (h : RowOK χ χ.A ruleC ao c) (hlc : l ≤ c) : ∃ rs, RulesAt w ao l rs := by
  have hx : ∀ i, ∃ r : RV, i < l → RVok r ∧ ∃ b o, ao = some ⟨b, o, none⟩ ∧ b < w.heap.size ∧ w.cell? ⟨b, o + i * 5, none⟩ = some (.string r.p) ∧ w.cell? ⟨b, o + i * 5 + 1, none⟩ = some (.bool r.a) ∧ w.cell? ⟨b, o + i * 5 + 2, none⟩ = some (.string r.wi) ∧
      w.cell? ⟨b, o + i * 5 + 3, none⟩ = some (.int .u16 r.pt) ∧ w.cell? ⟨b, o + i * 5 + 4, none⟩ = some (.int .u8 r.su) := fun i => by
    by_cases hi : i < l
    · obtain ⟨b, o, e, hb, hr⟩ := row_read hinv h hlc hi (by decide)
      obtain ⟨v0, k0, p, rfl, g0⟩ := hr 0 _ rfl
      obtain ⟨v1, k1, a, rfl⟩ := hr 1 _ rfl
      obtain ⟨v2, k2, wi, rfl, g2⟩ := hr 2 _ rfl
      obtain ⟨v3, k3, pt, rfl, g3⟩ := hr 3 _ rfl
      obtain ⟨v4, k4, su, rfl, g4⟩ := hr 4 _ rfl
      exact ⟨⟨p, a, wi, pt, su⟩, fun _ => ⟨⟨g0, g2, g3, g4⟩, b, o, e, hb, k0, k1, k2, k3, k4⟩⟩
    · exact ⟨⟨ByteArray.empty, false, ByteArray.empty, 0, 0⟩, fun h => absurd h hi⟩
  exact ⟨fun i => Classical.choose (hx i), fun i hi => Classical.choose_spec (hx i) hi⟩

def ValidPost (w : World) (r : RV) (e : Ending) (w' : World) : Prop := (∃ b, e = .returned (.bool b) ∧ (b = true → r.p.size ≤ 15 ∧ r.wi.size ≤ 15)) ∧ w.grownBy w' none

set_option maxRecDepth 100000 in
set_option maxHeartbeats 1600000 in
theorem valid_any {w : World} {r : RV} (hr : RVok r) : Calls Tryz.prog 214 #[.agg r.v] w (ValidPost w r) := by
  obtain ⟨p, a, wi, pt, su⟩ := r
  obtain ⟨h1, h2, h3, h4⟩ := hr
  unfold RV.v
  dsimp only at *
  have g1 := grown_alloc w (.cells #[.string p, .bool a, .string wi, .int .u16 pt, .int .u8 su] 324)
  have hE : (w.alloc (.cells #[.string p, .bool a, .string wi, .int .u16 pt, .int .u8 su] 324)).heap[w.heap.size]? = some (.cells #[.string p, .bool a, .string wi, .int .u16 pt, .int .u8 su] 324 (0, 0)) := by rw [alloc_get, if_pos rfl]
  go_enter Tryz.func214, Tryz.ntmps214
  go_upto_region 1 with fail
  generalize w.alloc (.cells #[.string p, .bool a, .string wi, .int .u16 pt, .int .u8 su] 324) = w1 at *
  have c0 : w1.cell? ⟨w.heap.size, 0, none⟩ = some (.string p) := by rw [cell?_blk hE]; rfl
  have c2 : w1.cell? ⟨w.heap.size, 2, none⟩ = some (.string wi) := by rw [cell?_blk hE]; rfl
  go_wp2_with fail
  refine (isdigits_any h1).mono ?_
  rintro e w2 ⟨⟨b1, rfl, hb1⟩, g2⟩
  have hE2 := (g2.block _ (lt_of_blk hE) (by simp)).trans hE
  have g12 := grown_trans g1 g2
  have c0 : w2.cell? ⟨w.heap.size, 0, none⟩ = some (.string p) := by rw [cell?_blk hE2]; rfl
  have c2 : w2.cell? ⟨w.heap.size, 2, none⟩ = some (.string wi) := by rw [cell?_blk hE2]; rfl
  cases b1 with
  | false =>
    go_wp2_with fail
    go_ret
    exact ⟨⟨_, rfl, fun h => by cases h⟩, g12⟩
  | true =>
    go_wp2_with fail
    refine (isdigits_any h2).mono ?_
    rintro e w3 ⟨⟨b2, rfl, hb2⟩, g3⟩
    have hE3 := (g3.block _ (lt_of_blk hE2) (by simp)).trans hE2
    have g13 := grown_trans g12 g3
    have c1 : w3.cell? ⟨w.heap.size, 1, none⟩ = some (.bool a) := by rw [cell?_blk hE3]; rfl
    have c2 : w3.cell? ⟨w.heap.size, 2, none⟩ = some (.string wi) := by rw [cell?_blk hE3]; rfl
    have c3 : w3.cell? ⟨w.heap.size, 3, none⟩ = some (.int .u16 pt) := by rw [cell?_blk hE3]; rfl
    have c4 : w3.cell? ⟨w.heap.size, 4, none⟩ = some (.int .u8 su) := by rw [cell?_blk hE3]; rfl
    cases b2 with
    | false =>
      go_wp2_with fail
      go_ret
      exact ⟨⟨_, rfl, fun h => by cases h⟩, g13⟩
    | true =>
      have hs := And.intro (hb1 (by trivial)) (hb2 (by trivial))
      cases a with
      | true =>
        go_wp2_with fail
        all_goals
          go_ret
          exact ⟨⟨_, rfl, fun _ => hs⟩, g13⟩
      | false =>
        obtain ⟨q, hq⟩ : ∃ q, wi.toList.isEmpty = q := ⟨_, rfl⟩
        obtain ⟨q2, hq2⟩ : ∃ q2, decide (pt ≤ 16383) = q2 := ⟨_, rfl⟩
        cases q
        · go_wp2_with fail
          go_ret
          exact ⟨⟨_, rfl, fun _ => hs⟩, g13⟩
        · cases q2
          · go_wp2_with fail
            go_ret
            exact ⟨⟨_, rfl, fun _ => hs⟩, g13⟩
          · go_wp2_with fail
            go_ret
            exact ⟨⟨_, rfl, fun _ => hs⟩, g13⟩

end Go.Sx

namespace Go.Sx
open Go Go.Proofs Go.Maps

theorem grown_new {w w1 w2 : World} {b : Nat} (h : w.grownBy w1 none) (k : w1.grownBy w2 (some b)) (hb : w.heap.size ≤ b) : w.grownBy w2 none :=
  ⟨k.os.trans h.os, k.tape.trans h.tape, k.output.trans h.output, Nat.le_trans h.size k.size, fun i hi _ => (k.block i (Nat.lt_of_lt_of_le hi h.size) (by simp; omega)).trans (h.block i hi (by simp))⟩

def isBool (v : Value) : Prop := ∃ b, v = .bool b
theorem zero4 (w : World) : (zeroValue 4).run Tryz.prog w = .ok (.bool false) w := by kernel_rfl
theorem str_key : Keyed Tryz.prog 9 := string_keyed Tryz.underlying9

def RSmall (r : RV) : Prop := r.p.size ≤ 15 ∧ r.wi.size ≤ 15

def CheckTPost (w : World) (n : Nat) (rs : Nat → RV) (e : Ending) (w' : World) : Prop := (∃ r : Int, e = .returned (.int .i64 r) ∧ 0 ≤ r ∧ r ≤ 10 ∧ (r = 0 → n ≤ 1024 ∧ ∀ i, i < n → RSmall (rs i))) ∧ w.grownBy w' none

set_option maxRecDepth 100000 in
set_option maxHeartbeats 1600000 in
theorem checkT_any {w : World} {ao : Option Addr} {n c : Nat} {rs : Nat → RV} (hn : n ≤ 1099511627776) (hr : RulesAt w ao n rs) : Calls Tryz.prog 99 #[.slice ao n c] w (CheckTPost w n rs) := by
  have hmm := @Go.RowKit.run_makeMap Tryz.prog
  go_enter Tryz.func99, Tryz.ntmps99
  by_cases hb : 1024 < n
  · have hd : decide ((1024 : Int) < (n : Int)) = true := by simp; omega
    have hd2 : decide (1024 < n) = true := by simp; omega
    go_wp2
    go_ret
    exact ⟨⟨3, rfl, by omega, by omega, fun h => by omega⟩, grown_refl w⟩
  · have hd : decide ((1024 : Int) < (n : Int)) = false := by simp; omega
    have hd2 : decide (1024 < n) = false := by simp; omega
    have hM := MapV.made Tryz.prog 9 isBool w
    have hgm := grown_alloc w (.map #[] 0)
    go_wp2_with fail
    generalize w.alloc (.map #[] 0) = w1 at *
    go_loopg [12] n (fun k q wr => ∃ j : Nat, j + k = n ∧ q = .int .i64 j ∧ w.grownBy wr none ∧ MapV Tryz.prog 9 isBool wr w.heap.size j ∧ ∀ i, i < j → RSmall (rs i))
    case atStart => exact ⟨0, by simp, rfl, hgm, hM, fun i h => absurd h (Nat.not_lt_zero i)⟩
    case round =>
      clear hM hgm
      obtain ⟨j, hjk, rfl, hg, hM, hsm⟩ := hrel
      cases gk with
      | zero =>
        have hil : decide (j < n) = false := by simp; omega
        obtain rfl : j = n := by omega
        go_wp2
        go_ret
        exact ⟨⟨0, rfl, by omega, by omega, fun _ => ⟨by omega, hsm⟩⟩, hg⟩
      | succ k =>
        have hil : decide (j < n) = true := by simp; omega
        have hlt : j < n := by omega
        have hi0 : (0 : Int) ≤ (j : Int) := by omega
        have hi1 : (j : Int) < (n : Int) := by omega
        have hi40 : (j : Int) ≤ 1099511627776 := by omega
        obtain ⟨hok, b, o, hao, hbl, q0, q1, q2, q3, q4⟩ := (hr.grown hg) j hlt
        subst hao
        have hv := fun o => valid_any (w := wr.alloc o) hok
        unfold RV.v at hv
        generalize hrj : rs j = rj at *
        obtain ⟨p, a, wi, pt, su⟩ := rj
        dsimp only at *
        have g2 := grown_alloc wr (.cells #[.string p, .bool a, .string wi, .int .u16 pt, .int .u8 su] 324)
        have hE : (wr.alloc (.cells #[.string p, .bool a, .string wi, .int .u16 pt, .int .u8 su] 324)).heap[wr.heap.size]? = some (.cells #[.string p, .bool a, .string wi, .int .u16 pt, .int .u8 su] 324 (0, 0)) := by rw [alloc_get, if_pos rfl]
        have k0 : (wr.alloc (.cells #[.string p, .bool a, .string wi, .int .u16 pt, .int .u8 su] 324)).cell? ⟨wr.heap.size, 0, none⟩ = some (.string p) := by rw [cell?_blk hE]; rfl
        go_wp2_with fail
        refine (hv _).mono ?_
        clear hv
        rintro e w3 ⟨⟨bb, rfl, hbb⟩, g3⟩
        have hg3 := grown_trans hg (grown_trans g2 g3)
        have k0' := cell_grown k0 (lt_of_blk hE) g3
        have hM3 := (hM.kept g2 (by simp)).kept g3 (by simp)
        cases bb with
        | false =>
          go_wp2_with fail
          go_ret
          exact ⟨⟨1, rfl, by omega, by omega, fun h => by omega⟩, hg3⟩
        | true =>
          have hsj : RSmall (rs j) := by rw [hrj]; exact hbb (by trivial)
          have hps : p.size ≤ maxLen := by have := hok.p; unfold maxLen; dsimp only at this; omega
          have hkey := Go.WideMaps.keyOf_string_mk Tryz.underlying9 hps
          clear q0 q1 q2 q3 q4 k0
          obtain ⟨_, hlook, y, rfl⟩ := hM3.look str_key Tryz.underlying329 (zero4 _) ⟨_, rfl⟩ hkey
          cases y with
          | true =>
            go_wp2_with fail
            go_ret
            exact ⟨⟨8, rfl, by omega, by omega, fun h => by omega⟩, hg3⟩
          | false =>
            go_wp2_with (first | (at_mapUpdate; refine wpList_mapV rfl _ _ _ _ rfl hM3 str_key Tryz.underlying329 (by unfold maxLen; omega) rfl rfl rfl hkey ⟨true, rfl⟩ ?_; intro w4 hM4 hg4) | fail)
            go_roundg k
            case measure => exact Nat.lt_succ_self k
            exact ⟨j + 1, by omega, rfl, grown_new hg3 hg4 (Nat.le_refl _), hM4, fun i h => by
              rcases Nat.lt_or_ge i j with h1 | h1
              · exact hsm i h1
              · obtain rfl : i = j := by omega
                exact hsj⟩

noncomputable def cTChk : Contract := conOf Tryz.prog 1099511627776 10 false ((Tryz.prog.funcs[99]?).getD default)

set_option maxRecDepth 100000 in
theorem hand99 : FnOK Tryz.prog 99 cTChk := by
  have e1 : cTChk.iv = [some (0, 1099511627776), some (0, 9223372036854775807)] := by kernel_rfl
  have e2 : cTChk.params = [.pv (.one (.slice false (.base 324) (.v 0) (.v 1)))] := by kernel_rfl
  have e4 : cTChk.riv = [some (-9223372036854775808, 9223372036854775807)] := by kernel_rfl
  have e5 : cTChk.res = .pv (.one (.int .i64 (.v 2))) := by kernel_rfl
  have e6 : cTChk.post = [] := by kernel_rfl
  have e7 : cTChk.nv = 2 := by simp [Contract.nv, e1]
  refine fnOK_plain fun χ w args hinv ha hi hp => ?_
  rw [e2] at ha
  rw [e1] at hi
  obtain ⟨args⟩ := args
  match args, ha with
  | [a], ⟨ha, _⟩ =>
    obtain ⟨ao, l, c, rfl, p1, p2, p3, p4, p5⟩ := ha
    simp only [T.ev] at p1 p2
    obtain ⟨i0, _⟩ := hi
    simp only [SE.ev, tauRule] at p5
    obtain ⟨rs, hrs⟩ := rules_read hinv p5 p3
    have hl : l ≤ 1099511627776 := by have h : χ.ρ 0 ≤ 1099511627776 := i0.2; omega
    refine (checkT_any hl hrs).mono ?_
    rintro e w' ⟨⟨r, rfl, r0, r1, _⟩, hg⟩
    refine ⟨_, [r], rfl, hg, ?_, ?_, ?_⟩
    · rw [e5, e7]
      show Value.int .i64 r = Value.int .i64 (rext χ.ρ 2 [r] 2)
      simp [rext]
    · rw [e4, e7]
      refine ⟨?_, trivial⟩
      simp [rext]; omega
    · rw [e6]; trivial

end Go.Sx
