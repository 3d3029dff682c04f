/- Part TiA of a proof: helper lemmas; no conditions. -/
import Derived.Test.YtnnaehcmchndmaaGreatDoorHnA
import Derived.Test.YtnnaehcmchndmaaGreatDoorR
import Derived.Test.YtnnaehcmchndmaaGreatDoorProg
import Derived.Shelf.Strings.SlTrimAscii
import Derived.Test.YtnnaehcmchndmaaGreatDoorHnB
import Derived.Test.YtnnaehcmchndmaaGreatDoorHnC
import Derived.WalkKit
import Derived.Deep.LoopGhost

set_option linter.unusedSimpArgs false
set_option linter.unusedVariables false

namespace Go.Sx
open Go Go.Proofs Go.Shelf Go.RowKit

def digS : ByteArray := ⟨#[48, 49, 50, 51, 52, 53, 54, 55, 56, 57]⟩

theorem trim_any {w : World} {s : ByteArray} (hs : s.size ≤ 1099511627776) : Calls Tryz.prog 235 #[.string s, .string ⟨#[48, 49, 50, 51, 52, 53, 54, 55, 56, 57]⟩] w fun e w' => (∃ r : ByteArray, e = .returned (.string r)) ∧ w.grownBy w' none := by
  have hcon := Any.strings_Trim_laid lays160 (by kernel_rfl) s ⟨#[48, 49, 50, 51, 52, 53, 54, 55, 56, 57]⟩ w (by omega) (by decide) (ascii_of_all (by decide))
  refine Calls.mono (show Calls Tryz.prog 235 _ _ _ from hcon) ?_
  rintro e w' ⟨rfl, h⟩
  exact ⟨⟨_, rfl⟩, ⟨h.os, h.tape, h.output, h.size, fun k hk _ => h.block k hk⟩⟩

def DigPost (w : World) (s : ByteArray) (e : Ending) (w' : World) : Prop := (∃ b, e = .returned (.bool b) ∧ (b = true → s.size ≤ 15)) ∧ w.grownBy w' none

theorem isdigits_any {w : World} {s : ByteArray} (hs : s.size ≤ 1099511627776) : Calls Tryz.prog 210 #[.string s] w (DigPost w s) := by
  have htr := trim_any (w := w) hs
  go_enter Tryz.func210, Tryz.ntmps210
  by_cases hl : s.size ≤ 15
  · have hb : decide ((s.size : Int) ≤ 15) = true := by simp; omega
    have hb2 : decide (s.size ≤ 15) = true := by simp; omega
    go_wp2_with fail
    refine htr.mono ?_
    rintro e w2 ⟨⟨r, rfl⟩, hg⟩
    go_wp2
    go_ret
    exact ⟨⟨_, rfl, fun _ => hl⟩, hg⟩
  · have hb : decide ((s.size : Int) ≤ 15) = false := by simp; omega
    have hb2 : decide (s.size ≤ 15) = false := by simp; omega
    go_wp2
    go_ret
    exact ⟨⟨_, rfl, fun h => by cases h⟩, grown_refl w⟩

noncomputable def cIsd : Contract := conOfX Tryz.prog 1099511627776 1099511627776 [] [] [] [(.le (.v 0) (.sub (.c 1099511627791) (.mul (.c 1099511627776) (.v 1))))] ((Tryz.prog.funcs[210]?).getD default)

set_option maxRecDepth 100000 in
theorem hand210 : FnOK Tryz.prog 210 cIsd := by
  have e1 : cIsd.iv = [some (0, 1099511627776)] := by kernel_rfl
  have e2 : cIsd.params = [.pv (.one (.str (.v 0)))] := by kernel_rfl
  have e4 : cIsd.riv = [some (0, 1)] := by kernel_rfl
  have e5 : cIsd.res = .pv (.one (.bool (.eq (.v 1) (.c 1)))) := by kernel_rfl
  have e6 : cIsd.post = [(.le (.v 0) (.sub (.c 1099511627791) (.mul (.c 1099511627776) (.v 1))))] := by kernel_rfl
  have e7 : cIsd.nv = 1 := by simp [Contract.nv, e1]
  refine fnOK_plain fun χ w args hinv ha hi hp => ?_
  rw [e2] at ha
  rw [e1] at hi
  obtain ⟨args⟩ := args
  match args, ha with
  | [a], ⟨ha, _⟩ =>
    obtain ⟨s, rfl, p1⟩ := ha
    simp only [T.ev] at p1
    obtain ⟨i0, _⟩ := hi
    have hl : s.size ≤ 1099511627776 := by have h : χ.ρ 0 ≤ 1099511627776 := i0.2; omega
    refine (isdigits_any hl).mono ?_
    rintro e w' ⟨⟨b, rfl, hb⟩, hg⟩
    refine ⟨_, [if b then 1 else 0], rfl, hg, ?_, ?_, ?_⟩
    · rw [e5, e7]
      show Value.bool b = Value.bool (decide (rext χ.ρ 1 [if b then 1 else 0] 1 = 1))
      cases b <;> simp [rext]
    · rw [e4, e7]
      refine ⟨?_, trivial⟩
      cases b <;> simp [rext]
    · rw [e6, e7]
      refine ⟨?_, trivial⟩
      cases b
      · simp [Fm.holds, T.ev, rext]; omega
      · have := hb rfl
        simp [Fm.holds, T.ev, rext]; omega

end Go.Sx

namespace Go.Sx
open Go Go.Proofs

def UnpPost (w : World) (e : Ending) (w' : World) : Prop := (∃ (s : ByteArray) (r : Int), e = .returned (.tuple #[.string s, .int .i64 r]) ∧ s.size ≤ 15 ∧ 0 ≤ r ∧ r ≤ 10) ∧ w.grownBy w' none

theorem bits_and_u8' (a b : Int) : 0 ≤ bits BinOp.and .u8 a b ∧ bits BinOp.and .u8 a b ≤ 255 := wrap_range .u8 _

theorem sz5b : sizeAt Tryz.prog 5 = some 1 := by kernel_rfl
theorem ag5b : aggOf Tryz.prog 5 = some false := by kernel_rfl
theorem index2_0 (a b : Int) (w : World) : (Instr.index 327 (.agg #[.int .u8 a, .int .u8 b]) (.int .i64 0)).run Tryz.prog w = .ok (.int .u8 a) w := by
  simp [Instr.index, asIntOf, run_und Tryz.underlying327, run_sizeAt sz5b, part, run_aggOf ag5b]
theorem index2_1 (a b : Int) (w : World) : (Instr.index 327 (.agg #[.int .u8 a, .int .u8 b]) (.int .i64 1)).run Tryz.prog w = .ok (.int .u8 b) w := by
  simp [Instr.index, asIntOf, run_und Tryz.underlying327, run_sizeAt sz5b, part, run_aggOf ag5b]

set_option maxRecDepth 100000 in
set_option maxHeartbeats 3200000 in
theorem unpack_any {w : World} {ao : Option Addr} {n c : Nat} {u : Nat → Int} (hn : n ≤ 1099511627776) (hu : NumsAt .u8 0 255 w ao n u) :
    Calls Tryz.prog 97 #[.slice ao n c] w (UnpPost w) := by
  have hb0 := bld_fresh w
  go_enter Tryz.func97, Tryz.ntmps97
  by_cases h8 : 8 < n
  · have hd : decide ((8 : Int) < (n : Int)) = true := by simp; omega
    have hd2 : decide (8 < n) = true := by simp; omega
    go_wp2
    exact bodyPost_ret (v := .tuple #[.string ⟨#[]⟩, .int .i64 3]) (by simp [results, Tryz.results97, go_sem]) rfl ⟨⟨_, _, rfl, by decide, by omega, by omega⟩, grown_refl w⟩
  · have hd : decide ((8 : Int) < (n : Int)) = false := by simp; omega
    have hd2 : decide (8 < n) = false := by simp; omega
    go_wp2_with fail
    generalize hW : w.alloc (.cells #[.pointer none, .slice none 0 0] 213) = w2 at *
    go_loopg [14] n (fun k q wr => ∃ j m : Nat, j + k = n ∧ q = .int .i64 j ∧ m ≤ 2 * j ∧ BldIs w.heap.size m w wr)
    case atStart => exact ⟨0, 0, by simp, rfl, Nat.le_refl _, hb0⟩
    case round =>
      obtain ⟨j, m, hjk, rfl, hm, hb⟩ := hrel
      cases gk with
      | zero =>
        have hil : decide (j < n) = false := by simp; omega
        obtain rfl : j = n := by omega
        have hF := hb.f
        clear hb hb0
        go_wp2_with fail
        refine (bld_string_f hF).mono ?_
        rintro e w3 ⟨⟨s, hs, rfl⟩, hF3⟩
        go_wp2_with fail
        refine (isdigits_any (w := w3) (s := s) (by omega)).mono ?_
        rintro e w4 ⟨⟨b, rfl, hb4⟩, hg4⟩
        have hF4 := hF3.kept hg4
        cases b with
        | false =>
          obtain ⟨_, _, _, hg⟩ := hF4
          go_wp2
          exact bodyPost_ret (v := .tuple #[.string ⟨#[]⟩, .int .i64 4]) (by simp [results, Tryz.results97, go_sem]) rfl ⟨⟨_, _, rfl, by decide, by omega, by omega⟩, hg⟩
        | true =>
          have hs15 := hb4 rfl
          go_wp2_with fail
          refine (bld_string_f hF4).mono ?_
          rintro e w5 ⟨⟨s2, hs2, rfl⟩, hF5⟩
          obtain ⟨_, _, _, hg⟩ := hF5
          go_wp2
          exact bodyPost_ret (v := .tuple #[.string s2, .int .i64 0]) (by simp [results, Tryz.results97, go_sem]) rfl ⟨⟨s2, 0, rfl, by omega, by omega, by omega⟩, hg⟩
      | succ k =>
        have hil : decide (j < n) = true := by simp; omega
        have hlt : j < n := by omega
        have hi0 : (0 : Int) ≤ (j : Int) := by omega
        have hi1 : (j : Int) < (n : Int) := by omega
        have hi40 : (j : Int) ≤ 8 := by omega
        have hgr : w.grownBy wr none := by obtain ⟨_, _, _, h⟩ := hb; exact h
        obtain ⟨bb, oo, hao, hbl, hx, hx0, hx1⟩ := (hu.grown hgr) j hlt
        subst hao
        have ha1 := bits_and_u8' (u j) 15
        have hs0 : 0 ≤ u j / 16 := by omega
        have hs1 : u j / 16 ≤ 255 := by omega
        go_wp2_with fail
        go_loopg [24] 2 (fun k2 q wr2 => ∃ i m2 : Nat, i + k2 = 2 ∧ q = .int .i64 i ∧ m2 ≤ 2 * j + i ∧ BldIs w.heap.size m2 w wr2)
        case atStart => exact ⟨0, m, by simp, rfl, by omega, hb⟩
        case round =>
          clear hb hx
          obtain ⟨i, m2, hik, rfl, hm2, hb⟩ := hrel
          cases gk with
          | zero =>
            obtain rfl : i = 2 := by omega
            go_wp2
            go_roundg k <;> first | omega | exact ⟨j + 1, m2, by omega, by go_num, by omega, hb⟩
          | succ k2 =>
            have hm0 : 0 ≤ u j % 16 := by omega
            have hm1 : u j % 16 ≤ 255 := by omega
            have hil2 : decide ((i : Int) < 2) = true := by simp; omega
            rcases (show i = 0 ∨ i = 1 by omega) with rfl | rfl
            · have hix := index2_0 (u j % 16) (u j / 16) wr
              by_cases hv : u j % 16 < 10
              · have hvb : decide (u j % 16 < 10) = true := by simpa using hv
                go_wp2_with fail
                refine (bld_byte hb (by omega) (by omega) (by omega)).mono ?_
                rintro e w3 ⟨rfl, hb3⟩
                clear hb
                go_wp2
                go_roundg k2 <;> first | omega | exact ⟨1, m2 + 1, by omega, by go_num, by omega, hb3⟩
              · have hvb : decide (u j % 16 < 10) = false := by simpa using hv
                have hg : w.grownBy wr none := by obtain ⟨_, _, _, h⟩ := hb; exact h
                go_wp2
                all_goals
                  exact bodyPost_ret (v := .tuple #[.string ⟨#[]⟩, .int .i64 4]) (by simp [results, Tryz.results97, go_sem]) rfl ⟨⟨_, _, rfl, by decide, by omega, by omega⟩, hg⟩
            · have hix := index2_1 (u j % 16) (u j / 16) wr
              by_cases hv : u j / 16 < 10
              · have hvb : decide (u j / 16 < 10) = true := by simpa using hv
                go_wp2_with fail
                refine (bld_byte hb (by omega) (by omega) (by omega)).mono ?_
                rintro e w3 ⟨rfl, hb3⟩
                clear hb
                go_wp2
                go_roundg k2 <;> first | omega | exact ⟨2, m2 + 1, by omega, by go_num, by omega, hb3⟩
              · have hvb : decide (u j / 16 < 10) = false := by simpa using hv
                have hg : w.grownBy wr none := by obtain ⟨_, _, _, h⟩ := hb; exact h
                obtain ⟨q, hqb⟩ : ∃ q, (u j / 16 != 15) = q := ⟨_, rfl⟩
                obtain ⟨r, hlb⟩ : ∃ r, decide ((j : Int) < (n : Int) - 1) = r := ⟨_, rfl⟩
                cases q <;> cases r
                all_goals go_wp2
                all_goals first
                  | exact bodyPost_ret (v := .tuple #[.string ⟨#[]⟩, .int .i64 4]) (by simp [results, Tryz.results97, go_sem]) rfl ⟨⟨_, _, rfl, by decide, by omega, by omega⟩, hg⟩
                  | (go_roundg k2 <;> first | omega | exact ⟨2, m2, by omega, by go_num, by omega, hb⟩)

noncomputable def cUnp : Contract := conOfX Tryz.prog 1099511627776 15 [] [] [] [] ((Tryz.prog.funcs[97]?).getD default)
theorem tau5u : tau Tryz.prog (.base 5) = [.int .u8 0 255] := by kernel_rfl

set_option maxRecDepth 100000 in
theorem hand97 : FnOK Tryz.prog 97 cUnp := by
  have e1 : cUnp.iv = [some (0, 1099511627776), some (0, 9223372036854775807)] := by kernel_rfl
  have e2 : cUnp.params = [.pv (.one (.slice false (.base 5) (.v 0) (.v 1)))] := by kernel_rfl
  have e4 : cUnp.riv = [some (0, 15), some (-9223372036854775808, 9223372036854775807)] := by kernel_rfl
  have e5 : cUnp.res = .tup [.one (.str (.v 2)), .one (.int .i64 (.v 3))] := by kernel_rfl
  have e6 : cUnp.post = [] := by kernel_rfl
  have e7 : cUnp.nv = 2 := by simp [Contract.nv, e1]
  refine fnOK_plain fun χ w args hinv ha hi hp => ?_
  rw [e2] at ha
  rw [e1] at hi
  obtain ⟨args⟩ := args
  match args, ha with
  | [a], ⟨ha, _⟩ =>
    obtain ⟨ao, l, c, rfl, p1, p2, p3, p4, p5⟩ := ha
    simp only [T.ev] at p1 p2
    obtain ⟨i0, _⟩ := hi
    simp only [SE.ev, tau5u] at p5
    obtain ⟨u, hu⟩ := nums_read hinv p5 p3
    have hl : l ≤ 1099511627776 := by have h : χ.ρ 0 ≤ 1099511627776 := i0.2; omega
    refine (unpack_any hl hu).mono ?_
    rintro e w' ⟨⟨s, r, rfl, hs, r0, r1⟩, hg⟩
    refine ⟨_, [(s.size : Int), r], rfl, hg, ?_, ?_, ?_⟩
    · rw [e5, e7]
      refine ⟨_, rfl, ⟨s, rfl, ?_⟩, ?_, trivial⟩
      · show (s.size : Int) = rext χ.ρ 2 [(s.size : Int), r] 2
        simp [rext]
      · show Value.int .i64 r = Value.int .i64 (rext χ.ρ 2 [(s.size : Int), r] 3)
        simp [rext]
    · rw [e4, e7]
      refine ⟨?_, ?_, trivial⟩
      · simp [rext]; omega
      · simp [rext]; omega
    · rw [e6]; trivial

end Go.Sx
