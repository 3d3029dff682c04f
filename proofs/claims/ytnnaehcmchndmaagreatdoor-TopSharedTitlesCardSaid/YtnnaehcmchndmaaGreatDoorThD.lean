/- Part ThD of a proof: helper lemmas; no conditions. -/
import Derived.Test.YtnnaehcmchndmaaGreatDoorThC
import Derived.Test.YtnnaehcmchndmaaGreatDoorHnB
import Derived.WalkMore

set_option linter.unusedSimpArgs false
set_option linter.unusedVariables false

namespace Go.Sx
open Go Go.Proofs

theorem elemStr : ElemOK Tryz.prog 154 9 [.str] (.string ByteArray.empty) 16 where
  und := Tryz.underlying154
  info := by
    have h : (Tryz.prog.info? 9).map (fun i => (i.size, i.bytes, i.zero)) = some (1, 16, some (.string ByteArray.empty)) := by kernel_rfl
    cases hi : Tryz.prog.info? 9 with
    | none => rw [hi] at h; cases h
    | some i =>
      rw [hi] at h
      simp only [Option.map_some, Option.some.injEq, Prod.mk.injEq] at h
      exact ⟨i, rfl, h.1, h.2.1, h.2.2⟩
  pos := by decide
  zlen := rfl
  zero := fun χ S i v hv => by
    match i, hv with
    | 0, hv => cases hv; exact ⟨.str, rfl, ByteArray.empty, rfl, by decide⟩

theorem str_per {χ : Chi} {S : Nat → Prop} {s : ByteArray} (hs : s.size ≤ 1099511627776) : PerOK Tryz.prog χ S [.str] #[.string s] := fun i v hv => by
  match i, hv with
  | 0, hv => cases hv; exact ⟨.str, rfl, s, rfl, hs⟩

theorem strclip_val {w : World} {ao : Option Addr} {l c : Nat} (hlc : l ≤ c) (hl : l ≤ 1099511627776) : Calls Tryz.prog 216 #[.slice ao l c] w fun e w' => e = .returned (.slice ao l l) ∧ w' = w := by
  have hil : (l : Int) ≤ (c : Int) := by omega
  go_enter Tryz.func216, Tryz.ntmps216
  go_wp2
  exact bodyPost_ret (v := .slice ao l l) (by simp [results, Tryz.results216, go_sem]) rfl ⟨rfl, rfl⟩
theorem strclip_cal : callable Tryz.prog 216 = true := by kernel_rfl

theorem RowOK.short {χ : Chi} {S : Nat → Prop} {cts : List CT} {ao : Option Addr} {c n : Nat} (h : RowOK χ S cts ao c) (hn : n ≤ c) : RowOK χ S cts ao n := by
  cases ao with
  | none => have : c = 0 := h; show n = 0; omega
  | some ad =>
    refine ⟨h.1, h.2.1, fun i hi => h.2.2 i ?_⟩
    have : n * cts.length ≤ c * cts.length := Nat.mul_le_mul_right _ hn
    omega

def TraceP (χ : Chi) (w : World) (e : Ending) (w' : World) : Prop := ∃ (χ' : Chi) (ao : Option Addr) (l c : Nat) (pt su r : Int), e = .returned (.tuple #[.slice ao l c, .agg #[.int .u16 pt, .int .u8 su], .int .i64 r]) ∧ (0 ≤ pt ∧ pt ≤ 65535) ∧ (0 ≤ su ∧ su ≤ 255) ∧ (0 ≤ r ∧ r ≤ 10) ∧
  l ≤ 10 ∧ l ≤ c ∧ c ≤ CB ∧ RowOK χ' χ'.F [.str] ao c ∧ MGrows Tryz.prog χ w χ' w'

theorem trace_fin {χ : Chi} {w : World} {χ6 : Chi} {w6 : World} {x0 x1 : Value} {pt su r : Int} {ao : Option Addr} {l c : Nat} {tm : Array Value} (hG : MGrows Tryz.prog χ w χ6 w6) (hR : w6.heap[w.heap.size]? = some (.cells #[x0, x1] 156 (0, 0))) (hn : ¬ χ6.A w.heap.size)
    (hp : 0 ≤ pt ∧ pt ≤ 65535) (hu : 0 ≤ su ∧ su ≤ 255) (hr : 0 ≤ r ∧ r ≤ 10) (hl : l ≤ 10) (hlc : l ≤ c) (hcc : c ≤ CB) (hrow : RowOK χ6 χ6.F [.str] ao c) (ht4 : tm[4]? = some (.slice ao l c)) (ht5 : tm[5]? = some (.pointer (some ⟨w.heap.size, 0, none⟩))) (ht6 : tm[6]? = some (.int .i64 r)) :
    bodyPost Tryz.prog Tryz.f103 (TraceP χ w) Exit.ret { tmps := tm, defers := [] } ((w6.setCell ⟨w.heap.size, 0, none⟩ (.int .u16 pt)).setCell ⟨w.heap.size, 1, none⟩ (.int .u8 su)) := by
  rw [set2 hR]
  have hlt := lt_of_blk hR
  have hRf : (setBlk w6 w.heap.size (.cells #[.int .u16 pt, .int .u8 su] 156 (0, 0))).heap[w.heap.size]? = some (.cells #[.int .u16 pt, .int .u8 su] 156 (0, 0)) := by rw [setBlk_get hlt, if_pos rfl]
  have hG2 := hG.setNew (Nat.le_refl _) hn hlt (.cells #[.int .u16 pt, .int .u8 su] 156 (0, 0))
  generalize setBlk w6 w.heap.size (.cells #[.int .u16 pt, .int .u8 su] 156 (0, 0)) = wf at *
  have y0 : wf.cell? ⟨w.heap.size, 0, none⟩ = some (.int .u16 pt) := by rw [cell?_blk hRf]; rfl
  have y1 : wf.cell? ⟨w.heap.size, 1, none⟩ = some (.int .u8 su) := by rw [cell?_blk hRf]; rfl
  refine bodyPost_ret (v := .tuple #[.slice ao l c, .agg #[.int .u16 pt, .int .u8 su], .int .i64 r]) ?_ rfl ⟨χ6, ao, l, c, pt, su, r, rfl, hp, hu, hr, hl, hlc, hcc, hrow, hG2⟩
  simp [results, Tryz.results103, go_sem, y0, y1, ht4, ht5, ht6]

set_option maxRecDepth 100000 in
set_option maxHeartbeats 3200000 in
theorem trace_any {χ : Chi} {w : World} {ao : Option Addr} {n c : Nat} {rs : Nat → RV} {s : ByteArray} (hi : Inv Tryz.prog χ w) (hF : ∀ b, ¬ χ.F b) (hn : n ≤ 1099511627776) (hr : RulesAt w ao n rs) (hs : s.size ≤ 1099511627776) :
    Calls Tryz.prog 103 #[.slice ao n c, .string s] w (TraceP χ w) := by
  have g1 := grown_alloc w (.cells #[.int .u16 0, .int .u8 0] 156)
  have hR1 : (w.alloc (.cells #[.int .u16 0, .int .u8 0] 156)).heap[w.heap.size]? = some (.cells #[.int .u16 0, .int .u8 0] 156 (0, 0)) := by rw [alloc_get, if_pos rfl]
  have hnR : ¬ χ.A w.heap.size := fun h => by have := hi.lt h; omega
  have fro : ∀ {wx : World}, wx.heap[w.heap.size]? = some (.cells #[.int .u16 0, .int .u8 0] 156 (0, 0)) → wx.frozen? ⟨w.heap.size, 0, none⟩ = false ∧ wx.frozen? ⟨w.heap.size, 1, none⟩ = false ∧ wx.cell? ⟨w.heap.size, 0, none⟩ = some (.int .u16 0) ∧ wx.cell? ⟨w.heap.size, 1, none⟩ = some (.int .u8 0) := fun h => ⟨by rw [frozen?_blk h]; simp, by rw [frozen?_blk h]; simp, by rw [cell?_blk h]; rfl, by rw [cell?_blk h]; rfl⟩
  go_enter Tryz.func103, Tryz.ntmps103
  go_wp2_with fail
  generalize w.alloc (.cells #[.int .u16 0, .int .u8 0] 156) = w1 at *
  go_step3
  go_wp2_with fail
  refine (checkT_any hn (hr.grown g1)).mono ?_
  rintro e w2 ⟨⟨r, rfl, r0, r1, hch⟩, g2⟩
  have g12 := grown_trans g1 g2
  have hR2 := (g2.block _ (lt_of_blk hR1) (by simp)).trans hR1
  by_cases h0 : r = 0
  · subst h0
    go_wp2_with fail
    refine (isdigits_any hs).mono ?_
    rintro e w3 ⟨⟨b, rfl, hb⟩, g3⟩
    have g13 := grown_trans g12 g3
    have hR3 := (g3.block _ (lt_of_blk hR2) (by simp)).trans hR2
    cases b with
    | false =>
      obtain ⟨f0, f1, q0, q1⟩ := fro hR3
      go_wp2_with fail
      exact trace_fin (MGrows.plain hi g13) hR3 hnR ⟨by omega, by omega⟩ ⟨by omega, by omega⟩ ⟨by omega, by omega⟩ (by omega) (Nat.le_refl 0) (by unfold CB; omega) (ao := none) rfl rfl rfl rfl
    | true =>
      have hs15 := hb (by trivial)
      go_wp2_with fail
      go_step3
      go_wp2_with fail
      have A0 := MGrows.new (P := Tryz.prog) (hi.same fun b hb => g13.block b (hi.lt hb) (by simp)) (n := 1) (cts := [.str]) (vs := #[.string s]) rfl (str_per hs) 9
      have hRA := ((grown_alloc w3 (.cells #[.string s] 9)).block _ (lt_of_blk hR3) (by simp)).trans hR3
      have hs3 := g13.size
      have hl1 := lt_of_blk hR3
      generalize hχa : χ.alloc w3.heap.size true (perK [.str] 1) = χa at A0
      generalize hwa : w3.alloc (.cells #[.string s] 9) = wa at *
      obtain ⟨A1, A2⟩ := A0
      have hnRa : ¬ χa.A w.heap.size := by
        rw [← hχa]
        rintro (h | h)
        · exact hnR h
        · omega
      have A3 := (MGrows.plain hi g13).trans A1
      have hl0 : w.heap.size < wa.heap.size := lt_of_blk hRA
      clear hR3 hR2 hR1 A1 g3 g2 hb
      go_loopg [1, 8] 8 (fun k q1 q8 wr => ∃ (χx : Chi) (s2 : ByteArray) (ax : Option Addr) (l cx : Nat), q1 = .string s2 ∧ q8 = .slice ax l cx ∧ s2.size ≤ 15 ∧ l + k = 9 ∧ 1 ≤ l ∧ l ≤ cx ∧ cx ≤ CB ∧ RowOK χx χx.F [.str] ax cx ∧ MGrows Tryz.prog χ w χx wr ∧ ¬ χx.A w.heap.size ∧ wr.heap[w.heap.size]? = some (.cells #[.int .u16 0, .int .u8 0] 156 (0, 0)))
      case atStart => exact ⟨χa, s, _, 1, 1, rfl, rfl, hs15, by omega, by omega, by omega, by unfold CB; omega, A2, A3, hnRa, by assumption⟩
      case round =>
        clear A2 A3
        obtain ⟨χx, s2, ax, l, cx, rfl, rfl, hs2, hlk, hl1', hlc, hcc, hrow, hG, hnx, hRx⟩ := hrel
        have hgw := grown_of_mem hG.mem hF
        go_wp2_with fail
        refine (tmatch_any hn (hr.grown hgw) (s := s2) (by omega)).mono ?_
        rintro e w4 ⟨⟨r4, rfl, r40, r41, hr4⟩, g4⟩
        have hg4 := grown_trans hgw g4
        have hR4 := (g4.block _ (lt_of_blk hRx) (by simp)).trans hRx
        have hG4 := hG.trans (MGrows.plain hG.inv g4)
        by_cases hneg : r4 < 0
        · have hnb : decide (r4 < 0) = true := by simpa using hneg
          obtain ⟨f0, f1, q0, q1⟩ := fro hR4
          go_wp2_with fail
          exact trace_fin hG4 hR4 hnx ⟨by omega, by omega⟩ ⟨by omega, by omega⟩ ⟨by omega, by omega⟩ (by omega) (Nat.le_refl 0) (by unfold CB; omega) (ao := none) rfl rfl rfl rfl
        · have hnb : decide (r4 < 0) = false := by simpa using hneg
          obtain ⟨i, rfl⟩ : ∃ i : Nat, r4 = (i : Int) := ⟨r4.toNat, by omega⟩
          have hin : i < n := by omega
          have hi0 : (0 : Int) ≤ (i : Int) := by omega
          have hi1 : (i : Int) < (n : Int) := by omega
          have hi40 : (i : Int) ≤ 1099511627776 := by omega
          have hps := hr4 (by omega)
          rw [Int.toNat_natCast] at hps
          have hsm := (hch (by trivial)).2 i hin
          obtain ⟨hok, b, o, hao, hbl, q0, q1, q2, q3, q4⟩ := (hr.grown hg4) i hin
          subst hao
          generalize hrj : rs i = rj at *
          obtain ⟨p, a, wi, pt, su⟩ := rj
          obtain ⟨o1, o2, o3, o4⟩ := hok
          unfold RSmall at hsm
          dsimp only at *
          cases a with
          | false =>
            obtain ⟨f0, f1, y0, y1⟩ := fro hR4
            have hlx : l ≤ 1099511627776 := by omega
            go_wp2_with fail
            go_region_law (refine gstep1 (vx := .slice ax l cx) rfl 216 (.tmp 36) #[154] rfl strclip_cal (by go_simp) (strclip_val hlc hlx) (fun e w' h => ?_)
                           obtain ⟨rfl, rfl⟩ := h
                           refine .inl ⟨_, rfl, ?_⟩)
            all_goals
              go_wp2_with fail
              exact trace_fin (hG4.trans (MGrows.plain hG4.inv (grown_drew0 _))) hR4 hnx ⟨by omega, by omega⟩ ⟨by omega, by omega⟩ ⟨by omega, by omega⟩ (by omega) (Nat.le_refl l) (by omega) (RowOK.short hrow hlc) rfl rfl rfl
          | true =>
            have j0 : (0 : Int) ≤ (p.size : Int) := by omega
            have j1 : (p.size : Int) ≤ (s2.size : Int) := by omega
            have hsz : ¬ (9223372036854775807 < wi.size + (s2.size - p.size)) := by omega
            go_wp2_with fail
            go_region
            have hG5 := hG4.trans (MGrows.plain hG4.inv (grown_drew0 w4))
            have hR5 : w4.drew.heap[w.heap.size]? = some (.cells #[.int .u16 0, .int .u8 0] 156 (0, 0)) := hR4
            have hs3' : (wi ++ s2.extract p.size s2.size).size ≤ 1099511627776 := by
              rw [ByteArray.size_append, ByteArray.size_extract]
              omega
            clear hR4 hG4 q0 q1 q2 q3 q4 hr4 hch
            generalize wi ++ s2.extract p.size s2.size = s5 at *
            generalize w4.drew = w5 at *
            by_cases h8 : 8 < l
            · have h8b : decide (8 < l) = true := by simpa using h8
              have h8c : decide ((8 : Int) < (l : Int)) = true := by simp; omega
              obtain ⟨f0, f1, y0, y1⟩ := fro hR5
              go_wp2_with fail
              exact trace_fin hG5 hR5 hnx ⟨by omega, by omega⟩ ⟨by omega, by omega⟩ ⟨by omega, by omega⟩ (by omega) (Nat.le_refl 0) (by unfold CB; omega) (ao := none) rfl rfl rfl rfl
            · have h8b : decide (8 < l) = false := by simpa using h8
              have h8c : decide ((8 : Int) < (l : Int)) = false := by simp; omega
              go_wp2_with fail
              refine (isdigits_any hs3').mono ?_
              rintro e w6 ⟨⟨b6, rfl, hb6⟩, g6⟩
              have hR6 := (g6.block _ (lt_of_blk hR5) (by simp)).trans hR5
              have hG6 := hG5.trans (MGrows.plain hG5.inv g6)
              cases b6 with
              | false =>
                obtain ⟨f0, f1, y0, y1⟩ := fro hR6
                go_wp2_with fail
                exact trace_fin hG6 hR6 hnx ⟨by omega, by omega⟩ ⟨by omega, by omega⟩ ⟨by omega, by omega⟩ (by omega) (Nat.le_refl 0) (by unfold CB; omega) (ao := none) rfl rfl rfl rfl
              | true =>
                obtain ⟨k, rfl⟩ : ∃ k, gk = k + 1 := ⟨gk - 1, by omega⟩
                have hs5 := hb6 (by trivial)
                clear hG5 hR5 hG hRx
                go_wp2_with (first | (refine wpList_append_el elemStr (by decide) rfl (.tmp 66) (.tmp 68) rfl hG6.inv rfl rfl hlc hcc hrow (by omega) rfl (str_per hs3') ?_; intro ao' c' χ' w' G' h1 h2 h3) | fail)
                go_roundg k
                case measure => exact Nat.lt_succ_self k
                have hlt6 := lt_of_blk hR6
                have hnF : ¬ χx.F w.heap.size := fun h => hnx (hG6.inv.sub _ h)
                exact ⟨χ', s5, ao', l + 1, c', rfl, rfl, hs5, by omega, by omega, h1, h2, h3, hG6.trans G', G'.nA hlt6 hnx, (G'.keep hR6 hnF).1⟩
  · have hrb : (r != 0) = true := by simpa using h0
    obtain ⟨f0, f1, q0, q1⟩ := fro hR2
    go_wp2_with fail
    exact trace_fin (MGrows.plain hi g12) hR2 hnR ⟨by omega, by omega⟩ ⟨by omega, by omega⟩ ⟨by omega, by omega⟩ (by omega) (Nat.le_refl 0) (by unfold CB; omega) (ao := none) rfl rfl rfl rfl

end Go.Sx
