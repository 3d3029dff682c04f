/- Part ThF of a proof: helper lemmas; no conditions. -/
import Derived.Test.YtnnaehcmchndmaaGreatDoorThA
import Derived.Test.YtnnaehcmchndmaaGreatDoorHnB
import Derived.Test.YtnnaehcmchndmaaGreatDoorTxA

set_option linter.unusedSimpArgs false
set_option linter.unusedVariables false

namespace Go.Sx
open Go Go.Proofs

theorem tname_any {w : World} {s : ByteArray} : Calls Tryz.prog 218 #[.string s] w fun e w' => (∃ s' : ByteArray, e = .returned (.string s') ∧ s'.size ≤ s.size + 1) ∧ w' = w := by
  obtain ⟨q, hq⟩ : ∃ q, s.toList.isEmpty = q := ⟨_, rfl⟩
  go_enter Tryz.func218, Tryz.ntmps218
  cases q
  · go_wp2
    exact bodyPost_ret (v := .string s) (by simp [results, Tryz.results218, go_sem]) rfl ⟨⟨s, rfl, by omega⟩, rfl⟩
  · go_wp2
    exact bodyPost_ret (v := .string ⟨#[45]⟩) (by simp [results, Tryz.results218, go_sem]) rfl ⟨⟨_, rfl, by show 1 ≤ s.size + 1; omega⟩, rfl⟩

theorem itoaT_cal : callable Tryz.prog 126 = true := by kernel_rfl
theorem bwsT_cal : callable Tryz.prog 140 = true := by kernel_rfl

theorem BldF.ltT {b n : Nat} {w0 w : World} (h : BldF b n w0 w) : b < w.heap.size := by
  obtain ⟨l, h1, h2, h3⟩ := h
  rcases h2 with h | h
  · exact lt_of_blk h.2.choose_spec.1
  · exact lt_of_blk h.2.choose_spec.1

theorem BldF.oldT {b n : Nat} {w0 w : World} (h : BldF b n w0 w) : w0.grownBy w none := by
  obtain ⟨l, h1, h2, h3⟩ := h
  exact h3

def WriteTP (w : World) (e : Ending) (w' : World) : Prop := (∃ (s : ByteArray) (r : Int), e = .returned (.tuple #[.string s, .int .i64 r]) ∧ s.size ≤ 1099511627776 ∧ 0 ≤ r ∧ r ≤ 10) ∧ w.grownBy w' none

set_option maxRecDepth 100000 in
set_option maxHeartbeats 3200000 in
theorem writeT_any {χ : Chi} {w : World} {ao : Option Addr} {n c : Nat} {rs : Nat → RV} (hi : Inv Tryz.prog χ w) (hgl : GlOK χ [(2, tabC)]) (hn : n ≤ 1099511627776) (hr : RulesAt w ao n rs) :
    Calls Tryz.prog 109 #[.slice ao n c] w (WriteTP w) := by
  go_enter Tryz.func109, Tryz.ntmps109
  go_wp2_with fail
  refine (checkT_any hn hr).mono ?_
  rintro e w2 ⟨⟨r, rfl, r0, r1, hch⟩, g2⟩
  by_cases h0 : r = 0
  · subst h0
    obtain ⟨hn10, hsm⟩ := hch rfl
    have hb0 := (bld_fresh w2).f
    go_wp2_with fail
    generalize w2.alloc (.cells #[.pointer none, .slice none 0 0] 213) = w3 at *
    generalize hBb : w2.heap.size = Bb at *
    go_loopg [15] n (fun k q wr => ∃ j m : Nat, j + k = n ∧ q = .int .i64 j ∧ m ≤ 100 * j ∧ BldF Bb m w2 wr)
    case atStart => exact ⟨0, 0, by simp, rfl, by omega, hb0⟩
    case round =>
      clear hb0
      obtain ⟨j, m, hjk, rfl, hm, hb⟩ := hrel
      cases gk with
      | zero =>
        have hil : decide (j < n) = false := by simp; omega
        obtain rfl : j = n := by omega
        go_wp2_with fail
        refine (bld_string_f hb).mono ?_
        rintro e w4 ⟨⟨s, hs, rfl⟩, hb4⟩
        go_wp2
        exact bodyPost_ret (v := .tuple #[.string s, .int .i64 0]) (by simp [results, Tryz.results109, go_sem]) rfl ⟨⟨s, 0, rfl, by omega, by omega, by omega⟩, grown_trans g2 hb4.oldT⟩
      | succ k =>
        have hil : decide (j < n) = true := by simp; omega
        have hlt : j < n := by omega
        have hi0 : (0 : Int) ≤ (j : Int) := by omega
        have hi1 : (j : Int) < (n : Int) := by omega
        have hi40 : (j : Int) ≤ 1099511627776 := by omega
        have hgr := grown_trans g2 hb.oldT
        have hsj := hsm j hlt
        obtain ⟨hok, b, o, hao, hbl, q0, q1, q2, q3, q4⟩ := (hr.grown hgr) j hlt
        subst hao
        generalize hrj : rs j = rj at *
        obtain ⟨p, a, wi, pt, su⟩ := rj
        obtain ⟨o1, o2, o3, o4⟩ := hok
        unfold RSmall at hsj
        dsimp only at *
        have gE := grown_alloc wr (.cells #[.string p, .bool a, .string wi, .int .u16 pt, .int .u8 su] 324)
        have hE : (wr.alloc (.cells #[.string p, .bool a, .string wi, .int .u16 pt, .int .u8 su] 324)).heap[wr.heap.size]? = some (.cells #[.string p, .bool a, .string wi, .int .u16 pt, .int .u8 su] 324 (0, 0)) := by rw [alloc_get, if_pos rfl]
        have hbE : wr.heap.size ≠ Bb := by have := hb.ltT; omega
        have hbb := hb.kept gE
        go_upto_region 8 with fail
        generalize hEE : wr.heap.size = EE at *
        generalize wr.alloc (.cells #[.string p, .bool a, .string wi, .int .u16 pt, .int .u8 su] 324) = w4 at *
        have k0 : w4.cell? ⟨EE, 0, none⟩ = some (.string p) := by rw [cell?_blk hE]; rfl
        clear q0 q1 q2 q3 q4
        go_wp2_with fail
        refine (tname_any (s := p)).mono ?_
        rintro e w5 ⟨⟨s5, rfl, hs5⟩, rfl⟩
        have hws := bldf_str (s := s5) hbb (by omega)
        go_wp2_with fail
        refine hws.mono ?_
        clear hws
        rintro e w6 ⟨rfl, hb6, hK6⟩
        have hE6 := hK6.cells hE hbE (by decide)
        have k1 : w6.cell? ⟨EE, 1, none⟩ = some (.bool a) := by rw [cell?_blk hE6]; rfl
        have k2 : w6.cell? ⟨EE, 2, none⟩ = some (.string wi) := by rw [cell?_blk hE6]; rfl
        have k3 : w6.cell? ⟨EE, 3, none⟩ = some (.int .u16 pt) := by rw [cell?_blk hE6]; rfl
        have k4 : w6.cell? ⟨EE, 4, none⟩ = some (.int .u8 su) := by rw [cell?_blk hE6]; rfl
        clear k0
        have hgr6 := grown_trans g2 hb6.oldT
        go_upto_if 24 with fail
        go_cut [] (fun wx => ∃ m', m' ≤ m + 80 ∧ BldF Bb m' w2 wx)
        case first =>
          cases a with
          | true =>
            go_wp2_with fail
            refine (tname_any (s := wi)).mono ?_
            rintro e w7 ⟨⟨s7, rfl, hs7⟩, rfl⟩
            have hsz : ¬ (9223372036854775807 < 4 + s7.size) := by omega
            have hws := bldf_str (s := ({ data := #[32, 61, 62, 32] } : ByteArray) ++ s7) hb6 (by rw [ByteArray.size_append]; show m + s5.size + (4 + s7.size) ≤ _; omega)
            go_wp2_with fail
            refine hws.mono ?_
            clear hws
            rintro e w8 ⟨rfl, hb8, hK8⟩
            go_wp2_with fail
            go_meet
            exact ⟨_, by rw [ByteArray.size_append]; show m + s5.size + (4 + s7.size) ≤ _; omega, hb8⟩
          | false =>
            have hb6d := hb6.kept (grown_drew0 _)
            have hin : ∀ wx : World, w.grownBy wx none → Inv Tryz.prog χ wx := fun wx h => hi.same fun k hk => h.block k (hi.lt hk) (by simp)
            have hg6d := grown_trans hgr6 (grown_drew0 w6)
            have hit1 := itoa_call (z := pt) (w := w6.drew) (hin _ hg6d) hgl (by omega) (by omega)
            have hwp : IntKind.i64.wrap pt = pt := wrap_id (by show (-9223372036854775808 : Int) ≤ _; omega) (by show _ ≤ (9223372036854775807 : Int); omega)
            have hws' : IntKind.i64.wrap su = su := wrap_id (by show (-9223372036854775808 : Int) ≤ _; omega) (by show _ ≤ (9223372036854775807 : Int); omega)
            have hE6d : w6.drew.heap[EE]? = some (.cells #[.string p, .bool false, .string wi, .int .u16 pt, .int .u8 su] 324 (0, 0)) := hE6
            go_wp2_with fail
            go_region_law (first
              | (refine gstep1 (vx := .int .i64 pt) rfl 126 (.tmp 33) #[3] rfl itoaT_cal (by go_simp; try exact hwp) hit1 (fun e w7 h => ?_)
                 obtain ⟨⟨z7, -, rfl, hz7⟩, hg7⟩ := h
                 have hb7 := hb6d.kept hg7
                 have hit2 := itoa_call (z := su) (w := w7) (hin _ (grown_trans hg6d hg7)) hgl (by omega) (by omega)
                 have hE7 := (hg7.block _ (lt_of_blk hE6d) (by simp)).trans hE6d
                 have k3' : w7.cell? ⟨EE, 3, none⟩ = some (.int .u16 pt) := by rw [cell?_blk hE7]; rfl
                 have k4' : w7.cell? ⟨EE, 4, none⟩ = some (.int .u8 su) := by rw [cell?_blk hE7]; rfl
                 have hsz1 : ¬ (9223372036854775807 < 4 + z7.size) := by omega
                 have hsz2 : ¬ (9223372036854775807 < 4 + z7.size + 1) := by omega
                 refine .inl ⟨_, rfl, ?_⟩)
              | (refine gstep1 (vx := .int .i64 su) rfl 126 (.tmp 40) #[3] rfl itoaT_cal (by go_simp; try exact hws') hit2 (fun e w8 h => ?_)
                 obtain ⟨⟨z8, -, rfl, hz8⟩, hg8⟩ := h
                 have hb8 := hb7.kept hg8
                 have hsz3 : ¬ (9223372036854775807 < 4 + z7.size + 1 + z8.size) := by omega
                 have hze : ((({ data := #[32, 45, 62, 32] } : ByteArray) ++ z7 ++ { data := #[58] }) ++ z8).size ≤ 47 := by
                   rw [ByteArray.size_append, ByteArray.size_append, ByteArray.size_append]
                   show 4 + z7.size + 1 + z8.size ≤ 47
                   omega
                 have hws := bldf_str (s := (({ data := #[32, 45, 62, 32] } : ByteArray) ++ z7 ++ { data := #[58] }) ++ z8) hb8 (by omega)
                 refine .inl ⟨_, rfl, ?_⟩)
              | (refine gstep2 (vx := .pointer (some ⟨Bb, 0, none⟩)) rfl 140 (.tmp 5) (.tmp 42) #[213, 9] rfl bwsT_cal (by go_simp) (by go_simp) hws (fun e w9 h => ?_)
                 obtain ⟨rfl, hb9, hK9⟩ := h
                 refine .inl ⟨_, rfl, ?_⟩))
            all_goals
              go_wp2_with fail
              go_meet
              exact ⟨_, by omega, hb9⟩
        case rest =>
          obtain ⟨m', hm', hb9⟩ := hcut
          have hby := bldf_byte (c := 10) hb9 (by omega) (by omega) (by omega)
          go_wp2_with fail
          refine hby.mono ?_
          clear hby
          rintro e w9 ⟨rfl, hb10, hK10⟩
          go_wp2
          go_roundg k
          case measure => exact Nat.lt_succ_self k
          exact ⟨j + 1, _, by omega, by go_num, by omega, hb10⟩
  · have hrb : (r != 0) = true := by simpa using h0
    go_wp2
    exact bodyPost_ret (v := .tuple #[.string ⟨#[]⟩, .int .i64 r]) (by simp [results, Tryz.results109, go_sem]) rfl ⟨⟨_, r, rfl, by decide, by omega, by omega⟩, g2⟩

theorem fnOK_plainG {P : Program} {f : FuncId} {c : Contract}
    (h : ∀ (χ : Chi) (w : World) (args : Array Value), Inv P χ w → All2 (gAV P χ) c.params args.toList → ivOK χ.ρ 0 c.iv → holdsAll χ.ρ c.pre → GlOK χ c.gl →
      Calls P f args w fun e w' => ∃ v zs, e = .returned v ∧ w.grownBy w' none ∧ gAV P (χ.withρ (rext χ.ρ c.nv zs)) c.res v ∧ ivOK (rext χ.ρ c.nv zs) c.nv c.riv ∧ holdsAll (rext χ.ρ c.nv zs) c.post) : FnOK P f c := by
  intro χ w args hinv ha hi hp hg
  refine (h χ w args hinv ha hi hp hg).mono ?_
  rintro e w' ⟨v, zs, rfl, hg, h1, h2, h3⟩
  exact ⟨v, χ.withρ (rext χ.ρ c.nv zs), rfl, Ext.rext χ c.nv zs, mem_of_grown hg _, (hinv.same fun b hb => hg.block b (hinv.lt hb) (by simp)).withρ _, h1, h2, h3⟩

abbrev glTi : List (Nat × List CT) := [(4, [.any]), (5, [.any]), (2, tabC), (3, [.int .i64 (-9223372036854775808) 9223372036854775807])]

theorem glTi_tab {χ : Chi} (h : GlOK χ glTi) : GlOK χ [(2, tabC)] := fun p hp => h p (by
  rw [List.mem_singleton] at hp
  rw [hp]
  exact .tail _ (.tail _ (.head _)))

noncomputable def cTwrite : Contract := { conOf Tryz.prog 1099511627776 1099511627776 false ((Tryz.prog.funcs[109]?).getD default) with gl := glTi }

set_option maxRecDepth 100000 in
theorem hand109 : FnOK Tryz.prog 109 cTwrite := by
  have e1 : cTwrite.iv = [some (0, 1099511627776), some (0, 9223372036854775807)] := by kernel_rfl
  have e2 : cTwrite.params = [.pv (.one (.slice false (.base 324) (.v 0) (.v 1)))] := by kernel_rfl
  have e4 : cTwrite.riv = [some (0, 1099511627776), some (-9223372036854775808, 9223372036854775807)] := by kernel_rfl
  have e5 : cTwrite.res = .tup [.one (.str (.v 2)), .one (.int .i64 (.v 3))] := by kernel_rfl
  have e6 : cTwrite.post = [] := by kernel_rfl
  have e7 : cTwrite.nv = 2 := by simp [Contract.nv, e1]
  refine fnOK_plainG fun χ w args hinv ha hi hp hgl => ?_
  have hgl' : GlOK χ glTi := hgl
  rw [e2] at ha
  rw [e1] at hi
  obtain ⟨args⟩ := args
  match args, ha with
  | [a], ⟨ha, _⟩ =>
    obtain ⟨ao, l, c, rfl, p1, p2, p3, p4, p5⟩ := ha
    simp only [T.ev] at p1 p2
    obtain ⟨i0, _⟩ := hi
    simp only [SE.ev, tauRule] at p5
    obtain ⟨rs, hrs⟩ := rules_read hinv p5 p3
    have hl : l ≤ 1099511627776 := by have h : χ.ρ 0 ≤ 1099511627776 := i0.2; omega
    refine (writeT_any hinv (glTi_tab hgl') hl hrs).mono ?_
    rintro e w' ⟨⟨s, r, rfl, hs, r0, r1⟩, hg⟩
    refine ⟨_, [(s.size : Int), r], rfl, hg, ?_, ?_, ?_⟩
    · rw [e5, e7]
      refine ⟨_, rfl, ⟨s, rfl, ?_⟩, ?_, trivial⟩
      · show (s.size : Int) = rext χ.ρ 2 [(s.size : Int), r] 2
        simp [rext]
      · show Value.int .i64 r = Value.int .i64 (rext χ.ρ 2 [(s.size : Int), r] 3)
        simp [rext]
    · rw [e4, e7]
      refine ⟨?_, ?_, trivial⟩
      · simp [rext]; omega
      · simp [rext]; omega
    · rw [e6]; trivial

end Go.Sx
