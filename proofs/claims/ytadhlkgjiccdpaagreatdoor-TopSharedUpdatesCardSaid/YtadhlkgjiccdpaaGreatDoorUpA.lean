/- Part UpA of a proof: helper lemmas; no conditions. -/
import Derived.Test.YtadhlkgjiccdpaaGreatDoorTgE
import Derived.Test.YtadhlkgjiccdpaaGreatDoorTgO
import Derived.Test.YtadhlkgjiccdpaaGreatDoorHnC
import Derived.WalkKit
import Derived.Deep.LoopGhost
import Derived.Test.YtadhlkgjiccdpaaGreatDoorTgH
import Derived.Test.YtadhlkgjiccdpaaGreatDoorTiA

set_option linter.unusedSimpArgs false
set_option linter.unusedVariables false

/-
  Package updates: the copies that 'Good' makes.
-/
namespace Go.Sx
open Go Go.Proofs

def askC : List CT := [.int .u16 0 65535, .int .i64 (-9223372036854775808) 9223372036854775807, .slice (.base 5)]
theorem tauAsk : tau Tryz.prog (.base 140) = askC := by kernel_rfl
theorem undAsks : Tryz.prog.underlying 28 = some (.slice 140) := by kernel_rfl
def askZ : Value := .agg #[.int .u16 0, .int .i64 0, .slice none 0 0]
theorem infoAsk : (Tryz.prog.info? 140).map (fun i => (i.zero, i.size, i.bytes)) = some (some askZ, 3, 40) := by kernel_rfl
theorem infoAsk' : ∃ i, Tryz.prog.info? 140 = some i ∧ i.zero = some askZ ∧ i.size = 3 ∧ i.bytes = 40 := by
  have h := infoAsk
  cases hi : Tryz.prog.info? 140 with
  | none => rw [hi] at h; cases h
  | some i =>
    rw [hi] at h
    simp only [Option.map_some, Option.some.injEq, Prod.mk.injEq] at h
    exact ⟨i, rfl, h.1, h.2.1, h.2.2⟩

/-- a list's cells: those up to j, and those behind l, lie in what may be written -/
def AskMix (χ : Chi) (j l : Nat) (cs : Array Value) : Prop :=
  ∀ i v, cs[i]? = some v → ∃ ct, askC[i % 3]? = some ct ∧ CellOK Tryz.prog χ χ.A ct v ∧ ((i < j * 3 ∨ l * 3 ≤ i) → CellOK Tryz.prog χ χ.F ct v)

theorem nil_asks (w : World) (p : Option Addr) (l c : Nat) : (binOp .eql 28 (.slice p l c) (.slice none 0 0)).run Tryz.prog w = .ok (.bool p.isNone) w := by
  rw [binOp_slice (.inl rfl)]
  simp [run_eql_slice undAsks]

theorem zero_ask {χ : Chi} {S : Nat → Prop} (n : Nat) : PerOK Tryz.prog χ S askC (Builtin.zeroCells askZ.cells n) ∧ (Builtin.zeroCells askZ.cells n).size = n * 3 := by
  have hsz : askZ.cells.size = 3 := rfl
  constructor
  · intro i v hv
    simp only [Builtin.zeroCells, hsz] at hv
    rw [Array.getElem?_map] at hv
    cases hr : (Array.range (n * 3))[i]? with
    | none => rw [hr] at hv; cases hv
    | some y =>
      rw [hr] at hv
      have hy : y = i := by
        obtain ⟨h1, h2⟩ := Array.getElem?_eq_some_iff.1 hr
        simpa using h2.symm
      subst hy
      simp only [Option.map_some, Option.some.injEq] at hv
      subst hv
      have : y % askC.length < 3 := Nat.mod_lt _ (by decide)
      have e : y % askC.length = y % 3 := rfl
      rw [e] at this ⊢
      generalize y % 3 = q at *
      match q, this with
      | 0, _ => exact ⟨.int .u16 0 65535, rfl, 0, rfl, by decide, by decide⟩
      | 1, _ => exact ⟨.int .i64 (-9223372036854775808) 9223372036854775807, rfl, 0, rfl, by decide, by decide⟩
      | 2, _ => exact ⟨.slice (.base 5), rfl, none, 0, 0, rfl, Nat.le_refl _, Nat.zero_le _, Nat.zero_le _, rfl⟩
  · simp [Builtin.zeroCells, hsz]

/-- what the copy of the list is -/
def AskNew (χ : Chi) (w : World) (l : Nat) (e : Ending) (w' : World) : Prop :=
  ∃ (ao : Option Addr) (c : Nat), e = .returned (.slice ao l c) ∧ w.grownBy w' none ∧ l ≤ c ∧
    ((ao = none ∧ l = 0) ∨ ∃ (g cap : Nat) (cs : Array Value), ao = some ⟨g, 0, none⟩ ∧ w.heap.size ≤ g ∧ w'.heap[g]? = some (.cells cs 140 (0, 0)) ∧ l ≤ cap ∧ cs.size = cap * 3 ∧ AskMix χ 0 l cs)

set_option maxRecDepth 100000 in
theorem aclone_any {χ : Chi} {w : World} (hi : Inv Tryz.prog χ w) {ao : Option Addr} {l c : Nat} (hl : l ≤ 1000000) (hlc : l ≤ c) (hr : RowOK χ χ.A askC ao c) :
    Calls Tryz.prog 101 #[.slice ao l c] w (AskNew χ w l) := by
  cases ao with
  | none =>
    have h0 : c = 0 := hr
    obtain rfl : l = 0 := by omega
    subst h0
    have hnil := nil_asks w none 0 0
    simp only [Option.isNone_none] at hnil
    go_enter Tryz.func101, Tryz.ntmps101
    go_wp2
    exact bodyPost_ret (v := .slice none 0 0) (by simp [results, Tryz.results101, go_sem]) rfl ⟨none, 0, rfl, grown_refl _, Nat.le_refl _, .inl ⟨rfl, rfl⟩⟩
  | some ad =>
    obtain ⟨iA, hiA, hz0, hz1, hz2⟩ := infoAsk'
    obtain ⟨vs, h1, h2, h3⟩ := load_row (hi.allocPlain (.cells #[] 140)) (fr := false) hr hlc (by decide)
    have hlen : askC.length = 3 := rfl
    rw [hlen] at h1 h2
    have hga := grown_alloc w (.cells #[] 140)
    have happ : ∃ (g cap capx : Nat) (cs : Array Value) (w' : World), (Builtin.append_ #[28, 28] 28 #[.slice (some ⟨w.heap.size, 0, none⟩) 0 0, .slice (some ad) l c]).run Tryz.prog (w.alloc (.cells #[] 140)) = .ok (.slice (some ⟨g, 0, none⟩) l cap) w' ∧
        w.grownBy w' none ∧ l ≤ cap ∧ w.heap.size ≤ g ∧ w'.heap[g]? = some (.cells cs 140 (0, 0)) ∧ l ≤ capx ∧ cs.size = capx * 3 ∧ AskMix χ 0 l cs := by
      by_cases hl0 : l = 0
      · subst hl0
        have hr' := run_append_in (P := Tryz.prog) (w := w.alloc (.cells #[] 140)) (w' := w.alloc (.cells #[] 140)) (ts := #[28, 28]) (ty := 28) (base := some ⟨w.heap.size, 0, none⟩) (sLen := 0) (sCap := 0) (n := 0) (x := .slice (some ad) 0 c) (vs := #[]) rfl rfl undAsks undAsks rfl hiA rfl (by rw [hz1]; rfl) (Nat.le_refl _) (by show (storeCells _ []).run _ _ = _; rfl)
        exact ⟨w.heap.size, 0, 0, #[], _, hr', grown_alloc _ _, Nat.le_refl _, Nat.le_refl _, by rw [alloc_get, if_pos rfl], Nat.le_refl _, rfl, fun i v hv => by simp at hv⟩
      · obtain ⟨cap, c1, c2, hr'⟩ := run_append_out (P := Tryz.prog) (w := w.alloc (.cells #[] 140)) (ts := #[28, 28]) (ty := 28) (base := some ⟨w.heap.size, 0, none⟩) (sLen := 0) (sCap := 0) (n := l) (x := .slice (some ad) l c) (old := #[]) (vs := vs) rfl rfl undAsks undAsks rfl hiA hz0 rfl (by omega) (by unfold CB; omega) (by rw [hz2]; omega) (by rw [hz1]; rfl) (by
          rw [hz1]
          exact h1 _ rfl)
        obtain ⟨z1, z2⟩ := zero_ask (χ := χ) (S := χ.F) (cap - l)
        refine ⟨_, cap, cap, _, _, by rw [Nat.zero_add] at hr'; exact hr', ?_, by omega, ?_, (by rw [alloc_get]; exact if_pos rfl), by omega, ?_, ?_⟩
        · exact grown_trans (grown_drew hga) (grown_alloc _ _)
        · exact hga.size
        · simp [h2, z2]; omega
        · intro i v hv
          rw [show (#[] : Array Value) ++ vs = vs by simp, Array.getElem?_append] at hv
          split at hv
          · rename_i hlt
            obtain ⟨ct, hct, hok⟩ := h3 i v hv
            exact ⟨ct, hct, hok, fun h => by omega⟩
          · rename_i hge
            obtain ⟨ct, hct, hok⟩ := z1 _ v hv
            rw [h2] at hct hge
            have e : (i - l * 3) % askC.length = i % 3 := by rw [hlen]; omega
            rw [e] at hct
            exact ⟨ct, hct, CellOK.mono hi.sub hok, fun _ => hok⟩
    obtain ⟨g, cap, capx, cs, wq, happ, hgr, hlc2, hge, hblk, hlx, hcs, hmix⟩ := happ
    have hnil := nil_asks w (some ad) l c
    simp only [Option.isNone_some] at hnil
    go_enter Tryz.func101, Tryz.ntmps101
    go_wp2_with (at_builtin; refine wpList_append_run rfl _ _ _ _ rfl (vs := .slice (some ⟨w.heap.size, 0, none⟩) 0 0) (vx := .slice (some ad) l c) (by go_simp) (by go_simp) happ ?_)
    exact bodyPost_ret (v := .slice (some ⟨g, 0, none⟩) l cap) (by simp [results, Tryz.results101, go_sem]) rfl ⟨some ⟨g, 0, none⟩, cap, rfl, hgr, hlc2, .inr ⟨g, capx, cs, rfl, hge, hblk, hlx, hcs, hmix⟩⟩

theorem aclip_val {w : World} {ao : Option Addr} {l c : Nat} (hlc : l ≤ c) (hl : l ≤ 1099511627776) : Calls Tryz.prog 100 #[.slice ao l c] w fun e w' => e = .returned (.slice ao l l) ∧ w' = w := by
  have hil : (l : Int) ≤ (c : Int) := by omega
  go_enter Tryz.func100, Tryz.ntmps100
  go_wp2
  exact bodyPost_ret (v := .slice ao l l) (by simp [results, Tryz.results100, go_sem]) rfl ⟨rfl, rfl⟩

theorem ubad_any {w : World} (n : Int) : Calls Tryz.prog 16 #[.int .i64 n] w fun e w' => e = .returned (.agg #[.bool false, .int .i64 n, .slice none 0 0, .slice none 0 0]) ∧ w.grownBy w' none := by
  go_enter Tryz.func16, Tryz.ntmps16
  have hb : (w.alloc (.cells #[.bool false, .int .i64 n, .slice none 0 0, .slice none 0 0] 47)).heap[w.heap.size]? = some (.cells #[.bool false, .int .i64 n, .slice none 0 0, .slice none 0 0] 47 (0, 0)) := by rw [alloc_get, if_pos rfl]
  go_wp2
  generalize hwb : w.alloc (.cells #[.bool false, .int .i64 n, .slice none 0 0, .slice none 0 0] 47) = wb at *
  have hgb : w.grownBy wb none := by rw [← hwb]; exact grown_alloc _ _
  have y0 : wb.cell? ⟨w.heap.size, 0, none⟩ = some (.bool false) := by rw [cell?_blk hb]; rfl
  have y1 : wb.cell? ⟨w.heap.size, 1, none⟩ = some (.int .i64 n) := by rw [cell?_blk hb]; rfl
  have y2 : wb.cell? ⟨w.heap.size, 2, none⟩ = some (.slice none 0 0) := by rw [cell?_blk hb]; rfl
  have y3 : wb.cell? ⟨w.heap.size, 3, none⟩ = some (.slice none 0 0) := by rw [cell?_blk hb]; rfl
  exact bodyPost_ret (v := .agg #[.bool false, .int .i64 n, .slice none 0 0, .slice none 0 0]) (by simp [results, Tryz.results16, go_sem, y0, y1, y2, y3]) rfl ⟨rfl, hgb⟩

noncomputable def cSclone : Contract := conOfX Tryz.prog 1099511627776 1099511627776 [] [] [] [(.eq (.v 2) (.v 0))] ((Tryz.prog.funcs[102]?).getD default)

theorem tau5s : tau Tryz.prog (.base 5) = oct := by kernel_rfl

set_option maxRecDepth 100000 in
theorem sclone_call (h102 : FnOK Tryz.prog 102 cSclone) {χ : Chi} {w : World} {ao : Option Addr} {l c : Nat} (hinv : Inv Tryz.prog χ w) (h1 : l ≤ 1099511627776) (h2 : l ≤ c) (h3 : c ≤ CB) (hr : RowOK χ χ.A oct ao c) :
    Calls Tryz.prog 102 #[.slice ao l c] w fun e w' => ∃ (ao' : Option Addr) (c' : Nat) (χ' : Chi), e = .returned (.slice ao' l c') ∧ TGrows χ w χ' w' ∧ l ≤ c' ∧ c' ≤ CB ∧ RowOK χ' χ'.F oct ao' c' := by
  have e1 : cSclone.iv = [some (0, 1099511627776), some (0, 9223372036854775807)] := by kernel_rfl
  have e2 : cSclone.params = [.pv (.one (.slice false (.base 5) (.v 0) (.v 1)))] := by kernel_rfl
  have e3 : cSclone.pre = [.le (.v 0) (.v 1)] := by kernel_rfl
  have e5 : cSclone.res = .pv (.one (.slice true (.base 5) (.v 2) (.v 3))) := by kernel_rfl
  have e6 : cSclone.gl = [] := by kernel_rfl
  have e7 : cSclone.nv = 2 := by simp [Contract.nv, e1]
  have e8 : cSclone.post = [.le (.v 2) (.v 3), .eq (.v 2) (.v 0)] := by kernel_rfl
  have h3' := h3
  unfold CB at h3'
  have hi : ivOK (χ.withρ (fun i => if i = 0 then (l : Int) else (c : Int))).ρ 0 cSclone.iv := by
    rw [e1]
    refine ⟨?_, ?_, trivial⟩
    · show (0 : Int) ≤ (if (0 : Nat) = 0 then (l : Int) else c) ∧ (if (0 : Nat) = 0 then (l : Int) else c) ≤ 1099511627776
      simp; omega
    · show (0 : Int) ≤ (if (1 : Nat) = 0 then (l : Int) else c) ∧ (if (1 : Nat) = 0 then (l : Int) else c) ≤ 9223372036854775807
      simp; omega
  refine (h102 (χ.withρ (fun i => if i = 0 then (l : Int) else (c : Int))) w #[.slice ao l c] (hinv.withρ _) ?_ hi ?_ (by rw [e6]; exact fun _ h => nomatch h)).mono ?_
  · rw [e2]
    refine ⟨⟨ao, l, c, rfl, by simp [T.ev, Chi.withρ], by simp [T.ev, Chi.withρ], h2, h3, ?_⟩, trivial⟩
    simp only [SE.ev, tau5s]
    exact hr
  · rw [e3]
    exact ⟨by simp [Fm.holds, T.ev, Chi.withρ]; omega, trivial⟩
  · rintro e w' ⟨v, χ', rfl, hx, hm, hi', hv, _, hp⟩
    rw [e5] at hv
    rw [e8] at hp
    rw [e7] at hx
    obtain ⟨ao', l', c', rfl, p1, p2, p3, p4, p5⟩ := hv
    simp only [SE.ev, tau5s] at p5
    obtain ⟨_, q2, _⟩ := hp
    simp only [Fm.holds, T.ev] at q2
    have q3 := hx.ρ 0 (by omega)
    simp only [Chi.withρ, if_pos] at q3
    simp only [T.ev] at p1
    obtain rfl : l' = l := by omega
    exact ⟨ao', c', χ', rfl, ⟨⟨fun i hi => absurd hi (Nat.not_lt_zero i), hx.F, hx.A, hx.κ⟩, ⟨hm.os, hm.tape, hm.output, hm.size, hm.old, hm.Fn, hm.An⟩, hi'⟩, p3, p4, p5⟩

noncomputable def cUenc : Contract := conOf Tryz.prog 1099511627776 65536 false ((Tryz.prog.funcs[10]?).getD default)

set_option maxRecDepth 100000 in
theorem uenc_call (h10 : FnOK Tryz.prog 10 cUenc) {χ : Chi} {w : World} (hinv : Inv Tryz.prog χ w) {s0 s1 s2 : ByteArray} {n3 n4 n5 : Int} {b6 : Bool} (h0 : s0.size ≤ 1099511627776) (h1 : s1.size ≤ 1099511627776) (h2 : s2.size ≤ 1099511627776) (h3 : 0 ≤ n3 ∧ n3 ≤ 65535) (h4 : 0 ≤ n4 ∧ n4 ≤ 4294967295) (h5 : 0 ≤ n5 ∧ n5 ≤ 65535) :
    Calls Tryz.prog 10 #[.agg #[.string s0, .string s1, .string s2, .int .u16 n3, .int .u32 n4, .int .u16 n5, .bool b6]] w fun e w' => ∃ (ao' : Option Addr) (l' c' : Nat) (r : Int) (χ' : Chi), e = .returned (.tuple #[.slice ao' l' c', .int .i64 r]) ∧ TGrows χ w χ' w' ∧ l' ≤ 65536 ∧ l' ≤ c' ∧ c' ≤ CB ∧ RowOK χ' χ'.F oct ao' c' := by
  have e1 : cUenc.iv = [some (0, 1099511627776), some (0, 1099511627776), some (0, 1099511627776), some (0, 65535), some (0, 4294967295), some (0, 65535), some (0, 1)] := by kernel_rfl
  have e2 : cUenc.params = [.pv (.agg [.str (.v 0), .str (.v 1), .str (.v 2), .int .u16 (.v 3), .int .u32 (.v 4), .int .u16 (.v 5), .bool (.eq (.v 6) (.c 1))])] := by kernel_rfl
  have e3 : cUenc.pre = [] := by kernel_rfl
  have e4 : cUenc.riv = [some (0, 65536), some (0, 9223372036854775807), some (-9223372036854775808, 9223372036854775807)] := by kernel_rfl
  have e5 : cUenc.res = .tup [.one (.slice true (.base 5) (.v 7) (.v 8)), .one (.int .i64 (.v 9))] := by kernel_rfl
  have e6 : cUenc.gl = [] := by kernel_rfl
  have e7 : cUenc.nv = 7 := by simp [Contract.nv, e1]
  let ρ : Val := fun i => if i = 0 then (s0.size : Int) else if i = 1 then (s1.size : Int) else if i = 2 then (s2.size : Int) else if i = 3 then n3 else if i = 4 then n4 else if i = 5 then n5 else (if b6 then 1 else 0)
  have hi : ivOK (χ.withρ ρ).ρ 0 cUenc.iv := by
    rw [e1]
    simp only [ivOK, Chi.withρ, ρ]
    simp
    refine ⟨by omega, by omega, by omega, by omega, by omega, by omega, ?_⟩
    cases b6 <;> simp
  refine (h10 (χ.withρ ρ) w _ (hinv.withρ _) ?_ hi (by rw [e3]; trivial) (by rw [e6]; exact fun _ h => nomatch h)).mono ?_
  · rw [e2]
    refine ⟨⟨_, rfl, ⟨⟨s0, rfl, ?_⟩, ⟨s1, rfl, ?_⟩, ⟨s2, rfl, ?_⟩, ?_, ?_, ?_, ?_, trivial⟩, ?_⟩, trivial⟩
    · simp [T.ev, Chi.withρ, ρ]
    · simp [T.ev, Chi.withρ, ρ]
    · simp [T.ev, Chi.withρ, ρ]
    · simp [gSV, T.ev, Chi.withρ, ρ]
    · simp [gSV, T.ev, Chi.withρ, ρ]
    · simp [gSV, T.ev, Chi.withρ, ρ]
    · cases b6 <;> simp [gSV, Fm.b, T.ev, Chi.withρ, ρ]
    · intro x hx
      simp only [List.mem_cons, List.not_mem_nil, or_false] at hx
      rcases hx with rfl | rfl | rfl | rfl | rfl | rfl | rfl <;> rfl
  · rintro e w' ⟨v, χ', rfl, hx, hm, hi', hv, hiv, hp⟩
    rw [e5] at hv
    rw [e7] at hx hiv
    rw [e4] at hiv
    obtain ⟨cs, rfl, hcs⟩ := hv
    obtain ⟨cs⟩ := cs
    match cs, hcs with
    | [v0, v1], ⟨g0, g1, _⟩ =>
      obtain ⟨ao', l', c', rfl, p1, p2, p3, p4, p5⟩ := g0
      simp only [SE.ev, tau5s] at p5
      simp only [gPV, gSV, T.ev] at g1
      subst g1
      simp only [T.ev] at p1
      have hl := hiv.1.2
      exact ⟨ao', l', c', _, χ', rfl, ⟨⟨fun i hi => absurd hi (Nat.not_lt_zero i), hx.F, hx.A, hx.κ⟩, ⟨hm.os, hm.tape, hm.output, hm.size, hm.old, hm.Fn, hm.An⟩, hi'⟩, by omega, p3, p4, p5⟩

end Go.Sx

/-
  'updates.Good'.
-/
namespace Go.Sx
open Go Go.Proofs

theorem TGrows.setOwn {χ χ' : Chi} {w wx : World} (h : TGrows χ w χ' wx) {g : Nat} (hg : w.heap.size ≤ g) (hA : ¬ χ'.A g) (hlt : g < wx.heap.size) (o : Obj) : TGrows χ w χ' (setBlk wx g o) :=
  ⟨h.ext, ⟨h.mem.os, h.mem.tape, h.mem.output, by rw [setBlk_size]; exact h.mem.size, fun b hb hF => by rw [setBlk_get hlt, if_neg (by omega)]; exact h.mem.old b hb hF, h.mem.Fn, h.mem.An⟩, h.inv.setOwn hA hlt o⟩

theorem TGrows.keepA {χ χ' : Chi} {w w' : World} (hi : Inv Tryz.prog χ w) (h : TGrows χ w χ' w') {E : Nat} {o : Obj} (hE : w.heap[E]? = some o) (hA : ¬ χ.A E) : w'.heap[E]? = some o ∧ ¬ χ'.A E := by
  have hlt := lt_of_blk hE
  refine ⟨(h.mem.old E hlt (fun hF => hA (hi.sub _ hF))).trans hE, fun hA' => ?_⟩
  rcases h.mem.An E hA' with h1 | h1
  · exact hA h1
  · omega

theorem AskMix.ext {χ χ' : Chi} {j l : Nat} {cs : Array Value} (h : AskMix χ j l cs) (hF : ∀ b, χ.F b → χ.A b) (hx : Ext 0 χ χ') : AskMix χ' j l cs := by
  intro i v hv
  obtain ⟨ct, h1, h2, h3⟩ := h i v hv
  exact ⟨ct, h1, CellOK.ext hx hx.A (fun _ h => h) h2, fun hij => CellOK.ext hx hx.F hF (h3 hij)⟩

/-- the list's element j gets octets of its own -/
theorem AskMix.step {χ : Chi} {j l : Nat} {cs : Array Value} (hF : ∀ b, χ.F b → χ.A b) (h : AskMix χ j l cs) (hj : j < l) {ao : Option Addr} {l2 : Nat} (hl : l2 ≤ 1099511627776) (hr : RowOK χ χ.F oct ao l2) : AskMix χ (j + 1) l (cs.setIfInBounds (j * 3 + 2) (.slice ao l2 l2)) := by
  intro i v hv
  have hval : CellOK Tryz.prog χ χ.F (.slice (.base 5)) (.slice ao l2 l2) := ⟨ao, l2, l2, rfl, Nat.le_refl _, hl, by unfold CB; omega, by rw [tau5s]; exact hr⟩
  rw [Array.getElem?_setIfInBounds] at hv
  split at hv
  · rename_i he
    subst he
    split at hv
    · cases hv
      refine ⟨.slice (.base 5), ?_, CellOK.mono hF hval, fun _ => hval⟩
      rw [show (j * 3 + 2) % 3 = 2 by omega]; rfl
    · cases hv
  · rename_i hne
    obtain ⟨ct, h1, h2, h3⟩ := h i v hv
    refine ⟨ct, h1, h2, fun hij => ?_⟩
    by_cases hlt : i < j * 3 ∨ l * 3 ≤ i
    · exact h3 hlt
    · have : i = j * 3 ∨ i = j * 3 + 1 := by omega
      rcases this with rfl | rfl
      · rw [show (j * 3) % 3 = 0 by omega] at h1
        cases h1
        exact h2
      · rw [show (j * 3 + 1) % 3 = 1 by omega] at h1
        cases h1
        exact h2

/-- the list, taken in -/
theorem AskMix.adopt {χ : Chi} {w : World} (hi : Inv Tryz.prog χ w) {l g cap : Nat} {cs : Array Value} (hA : ¬ χ.A g) (hb : w.heap[g]? = some (.cells cs 140 (0, 0))) (hlc : l ≤ cap) (hcs : cs.size = cap * 3) (h : AskMix χ l l cs) :
    ∃ χ', Ext 0 χ χ' ∧ Inv Tryz.prog χ' w ∧ (∀ b, χ'.F b → χ.F b ∨ b = g) ∧ (∀ b, χ'.A b → χ.A b ∨ b = g) ∧ RowOK χ' χ'.F askC (some ⟨g, 0, none⟩) l := by
  have hper : PerOK Tryz.prog χ χ.F askC cs := by
    intro i v hv
    obtain ⟨ct, h1, h2, h3⟩ := h i v hv
    exact ⟨ct, h1, h3 (by omega)⟩
  obtain ⟨h1, h2⟩ := Inv.adoptF hi hA (perK askC cap) hb (hper.typed hcs)
  refine ⟨χ.alloc g true (perK askC cap), h2, h1, fun b hb => ?_, fun b hb => ?_, rfl, .inr ⟨rfl, rfl⟩, fun i hi => ?_⟩
  · rcases hb with hb | hb
    · exact .inl hb
    · exact .inr hb.2
  · rcases hb with hb | hb
    · exact .inl hb
    · exact .inr hb
  · have : l * askC.length ≤ cap * askC.length := Nat.mul_le_mul_right _ hlc
    have hi2 : i < cap * askC.length := by omega
    simp only [Chi.alloc, if_true, Nat.zero_add, perK, hi2]

theorem set4 {w : World} {E T : Nat} {z0 z1 z2 z3 a0 a1 a2 a3 : Value} (h : w.heap[E]? = some (.cells #[z0, z1, z2, z3] T (0, 0))) :
    ((((w.setCell ⟨E, 0, none⟩ a0).setCell ⟨E, 1, none⟩ a1).setCell ⟨E, 2, none⟩ a2).setCell ⟨E, 3, none⟩ a3) = setBlk w E (.cells #[a0, a1, a2, a3] T (0, 0)) := by
  have hlt := lt_of_blk h
  have step : ∀ (o o' : Obj), setBlk (setBlk w E o) E o' = setBlk w E o' := fun o o' => by simp [setBlk]
  have g : ∀ o, (setBlk w E o).heap[E]? = some o := fun o => by rw [setBlk_get hlt, if_pos rfl]
  rw [setCell_blk h, setCell_blk (g _), step, setCell_blk (g _), step, setCell_blk (g _), step]
  rfl

/-- the list while its elements get octets of their own -/
structure GoodSt (χ : Chi) (w : World) (B l : Nat) (ao : Option Addr) (aoe : Option Addr) (ce j : Nat) (χ' : Chi) (wr : World) : Prop where
  G : TGrows χ w χ' wr
  blk : wr.heap[B]? = some (.cells #[.bool false, .int .i64 0, .slice none 0 0, .slice none 0 0] 47 (0, 0))
  nA : ¬ χ'.A B
  out : RowOK χ' χ'.F oct aoe ce
  own : (ao = none ∧ l = 0) ∨ ∃ (g cap : Nat) (cs : Array Value), ao = some ⟨g, 0, none⟩ ∧ B < g ∧ ¬ χ'.A g ∧ wr.heap[g]? = some (.cells cs 140 (0, 0)) ∧ l ≤ cap ∧ cs.size = cap * 3 ∧ AskMix χ' j l cs

/-- what 'Good' answers -/
def GoodPost (χ : Chi) (w : World) (e : Ending) (w' : World) : Prop :=
  ∃ (b : Bool) (r : Int) (ao : Option Addr) (l c : Nat) (ao2 : Option Addr) (l2 c2 : Nat) (χ' : Chi), e = .returned (.agg #[.bool b, .int .i64 r, .slice ao l c, .slice ao2 l2 c2]) ∧ TGrows χ w χ' w' ∧ (0 ≤ r ∧ r ≤ 10) ∧ l ≤ 65536 ∧ l ≤ c ∧ c ≤ CB ∧ RowOK χ' χ'.F oct ao c ∧ l2 ≤ 65536 ∧ l2 ≤ c2 ∧ c2 ≤ CB ∧ RowOK χ' χ'.F askC ao2 c2

set_option maxRecDepth 100000 in
set_option maxHeartbeats 3200000 in
theorem good_any (h10 : FnOK Tryz.prog 10 cUenc) (h102 : FnOK Tryz.prog 102 cSclone) {χ : Chi} {w : World} (hi : Inv Tryz.prog χ w) {s0 s1 s2 : ByteArray} {n3 n4 n5 : Int} {b6 : Bool} (h0 : s0.size ≤ 1099511627776) (h1 : s1.size ≤ 1099511627776) (h2 : s2.size ≤ 1099511627776) (h3 : 0 ≤ n3 ∧ n3 ≤ 65535) (h4 : 0 ≤ n4 ∧ n4 ≤ 4294967295) (h5 : 0 ≤ n5 ∧ n5 ≤ 65535)
    {ao : Option Addr} {l c : Nat} (hl : l ≤ 65536) (hlc : l ≤ c) (hcc : c ≤ CB) (hr : RowOK χ χ.A askC ao c) :
    Calls Tryz.prog 20 #[.agg #[.string s0, .string s1, .string s2, .int .u16 n3, .int .u32 n4, .int .u16 n5, .bool b6], .slice ao l c] w (GoodPost χ w) := by
  have hga : w.grownBy ((w.alloc (.cells #[.string s0, .string s1, .string s2, .int .u16 n3, .int .u32 n4, .int .u16 n5, .bool b6] 26)).alloc (.cells #[.bool false, .int .i64 0, .slice none 0 0, .slice none 0 0] 47)) none := grown_trans (grown_alloc _ _) (grown_alloc _ _)
  have hB : ((w.alloc (.cells #[.string s0, .string s1, .string s2, .int .u16 n3, .int .u32 n4, .int .u16 n5, .bool b6] 26)).alloc (.cells #[.bool false, .int .i64 0, .slice none 0 0, .slice none 0 0] 47)).heap[w.heap.size + 1]? = some (.cells #[.bool false, .int .i64 0, .slice none 0 0, .slice none 0 0] 47 (0, 0)) := by
    rw [alloc_get]
    exact if_pos (by show w.heap.size + 1 = (w.heap.push _).size; simp)
  have hnA : ¬ χ.A (w.heap.size + 1) := fun h => by have := hi.lt h; omega
  have G1 := TGrows.plain hi hga
  have henc := uenc_call h10 G1.inv h0 h1 h2 h3 h4 h5 (b6 := b6)
  go_enter Tryz.func20, Tryz.ntmps20
  go_wp2_with fail
  generalize (w.alloc (.cells #[.string s0, .string s1, .string s2, .int .u16 n3, .int .u32 n4, .int .u16 n5, .bool b6] 26)).alloc (.cells #[.bool false, .int .i64 0, .slice none 0 0, .slice none 0 0] 47) = w1 at *
  refine henc.mono ?_
  clear henc
  rintro e w2 ⟨aoe, le, ce, r, χ2, rfl, G2, e1, e2, e3, e4⟩
  obtain ⟨hB2, hnA2⟩ := G2.keepA G1.inv hB hnA
  have GG := G1.trans G2
  have hsz2 : w.heap.size + 1 < w2.heap.size := lt_of_blk hB2
  have hr2 : RowOK χ2 χ2.A askC ao c := RowOK.ext GG.ext GG.ext.A (fun _ h => h) hr
  clear G1 G2 hB hga hnA
  by_cases hr0 : r = 0
  · subst hr0
    have hcl := aclone_any GG.inv (by omega) hlc hr2
    go_wp2_with fail
    refine hcl.mono ?_
    clear hcl
    rintro e w3 ⟨ao3, c3, rfl, hg3, hlc3, h3⟩
    have G3 := TGrows.plain GG.inv hg3
    obtain ⟨hB3, hnA3⟩ := G3.keepA GG.inv hB2 hnA2
    have G := GG.trans G3
    have hge : w.heap.size + 1 < w3.heap.size := lt_of_blk hB3
    clear hB2 hnA2
    go_wp2_with fail
    refine (aclip_val hlc3 (by omega)).mono ?_
    rintro e w4 ⟨rfl, rfl⟩
    have hst : GoodSt χ w (w.heap.size + 1) l ao3 aoe ce 0 χ2 w4 := by
      refine ⟨G, hB3, hnA3, e4, ?_⟩
      rcases h3 with h3 | ⟨g, cap, cs, g1, g2, g3, g4, g5, g6⟩
      · exact .inl h3
      · exact .inr ⟨g, cap, cs, g1, by omega, fun h => by have := GG.inv.lt h; omega, g3, g4, g5, g6⟩
    clear G hB3 hnA3 h3 hr2 hge G3 e4 hg3 GG hr hlc3
    go_wp2_with fail
    go_loopg [22] l (fun k q wr => ∃ (j : Nat) (χ' : Chi), j + k = l ∧ q = .int .i64 (j : Int) ∧ GoodSt χ w (w.heap.size + 1) l ao3 aoe ce j χ' wr)
    case atStart => exact ⟨0, χ2, by omega, rfl, hst⟩
    case round =>
      clear hst
      obtain ⟨j, χ3, hjk, rfl, hst⟩ := hrel
      cases gk with
      | zero =>
        obtain rfl : j = l := by omega
        have hB := hst.blk
        have m0 : wr.cell? ⟨w.heap.size + 1, 0, none⟩ = some (.bool false) := by rw [cell?_blk hB]; rfl
        have m1 : wr.cell? ⟨w.heap.size + 1, 1, none⟩ = some (.int .i64 0) := by rw [cell?_blk hB]; rfl
        have m2 : wr.cell? ⟨w.heap.size + 1, 2, none⟩ = some (.slice none 0 0) := by rw [cell?_blk hB]; rfl
        have m3 : wr.cell? ⟨w.heap.size + 1, 3, none⟩ = some (.slice none 0 0) := by rw [cell?_blk hB]; rfl
        have f : ∀ i, wr.frozen? ⟨w.heap.size + 1, i, none⟩ = false := fun i => by rw [frozen?_blk hB]; simp
        have f0 := f 0
        have f1 := f 1
        have f2 := f 2
        have f3 := f 3
        clear f
        have hil : decide ((j : Int) < (j : Int)) = false := by simp
        go_wp2
        rw [set4 hB]
        have hlt := lt_of_blk hB
        have hBf : (setBlk wr (w.heap.size + 1) (.cells #[.bool true, .int .i64 0, .slice aoe le ce, .slice ao3 j j] 47 (0, 0))).heap[w.heap.size + 1]? = some (.cells #[.bool true, .int .i64 0, .slice aoe le ce, .slice ao3 j j] 47 (0, 0)) := by rw [setBlk_get hlt, if_pos rfl]
        have Gf := hst.G.setOwn (by omega) hst.nA hlt (.cells #[.bool true, .int .i64 0, .slice aoe le ce, .slice ao3 j j] 47 (0, 0))
        have hown := hst.own
        have hout := hst.out
        have hsz := hst.G.mem.size
        clear m0 m1 m2 m3 f0 f1 f2 f3
        have hfin : ∃ χ9, TGrows χ w χ9 (setBlk wr (w.heap.size + 1) (.cells #[.bool true, .int .i64 0, .slice aoe le ce, .slice ao3 j j] 47 (0, 0))) ∧ RowOK χ9 χ9.F oct aoe ce ∧ RowOK χ9 χ9.F askC ao3 j := by
          rcases hown with ⟨rfl, rfl⟩ | ⟨g, cap, cs, rfl, g1, g2, g3, g4, g5, g6⟩
          · exact ⟨χ3, Gf, hout, rfl⟩
          · have g3' : (setBlk wr (w.heap.size + 1) (.cells #[.bool true, .int .i64 0, .slice aoe le ce, .slice (some ⟨g, 0, none⟩) j j] 47 (0, 0))).heap[g]? = some (.cells cs 140 (0, 0)) := by rw [setBlk_get hlt, if_neg (by omega)]; exact g3
            obtain ⟨χ9, k1, k2, k3, k4, k5⟩ := g6.adopt Gf.inv g2 g3' g4 g5
            refine ⟨χ9, ⟨Gf.ext.trans k1, ⟨Gf.mem.os, Gf.mem.tape, Gf.mem.output, Gf.mem.size, Gf.mem.old, fun b hb => ?_, fun b hb => ?_⟩, k2⟩, RowOK.ext k1 k1.F Gf.inv.sub hout, k5⟩
            · rcases k3 b hb with h | rfl
              · exact Gf.mem.Fn b h
              · exact .inr (by omega)
            · rcases k4 b hb with h | rfl
              · exact Gf.mem.An b h
              · exact .inr (by omega)
        obtain ⟨χ9, G9, r1, r2⟩ := hfin
        clear Gf hst hown hout
        generalize setBlk wr (w.heap.size + 1) (.cells #[.bool true, .int .i64 0, .slice aoe le ce, .slice ao3 j j] 47 (0, 0)) = wf at *
        have y0 : wf.cell? ⟨w.heap.size + 1, 0, none⟩ = some (.bool true) := by rw [cell?_blk hBf]; rfl
        have y1 : wf.cell? ⟨w.heap.size + 1, 1, none⟩ = some (.int .i64 0) := by rw [cell?_blk hBf]; rfl
        have y2 : wf.cell? ⟨w.heap.size + 1, 2, none⟩ = some (.slice aoe le ce) := by rw [cell?_blk hBf]; rfl
        have y3 : wf.cell? ⟨w.heap.size + 1, 3, none⟩ = some (.slice ao3 j j) := by rw [cell?_blk hBf]; rfl
        exact bodyPost_ret (v := .agg #[.bool true, .int .i64 0, .slice aoe le ce, .slice ao3 j j]) (by simp [results, Tryz.results20, go_sem, y0, y1, y2, y3]) rfl
          ⟨true, 0, aoe, le, ce, ao3, j, j, χ9, rfl, G9, by omega, e1, e2, e3, r1, hl, Nat.le_refl _, by unfold CB; omega, r2⟩
      | succ k =>
        have hjl : j < l := by omega
        have hil : decide ((j : Int) < (l : Int)) = true := by simp; omega
        have hj0 : (0 : Int) ≤ (j : Int) := by omega
        have hj1 : (j : Int) < (l : Int) := by omega
        obtain ⟨G, hB, hnA, hout, hown⟩ := hst
        rcases hown with ⟨_, rfl⟩ | ⟨g, cap, cs, rfl, g1, g2, g3, g4, g5, g6⟩
        · omega
        have hlt3 : j * 3 + 2 < cs.size := by rw [g5]; omega
        obtain ⟨ct, c1, c2, _⟩ := g6 (j * 3 + 2) cs[j * 3 + 2] (Array.getElem?_eq_getElem hlt3)
        rw [show (j * 3 + 2) % 3 = 2 by omega] at c1
        cases c1
        obtain ⟨ao5, l5, c5, hv, q1, q2, q3, q4⟩ := c2
        rw [tau5s] at q4
        have k0 : wr.cell? ⟨g, j * 3 + 2, none⟩ = some (.slice ao5 l5 c5) := by rw [cell?_blk g3, Array.getElem?_eq_getElem hlt3, hv]
        have hcl := sclone_call h102 G.inv q2 q1 q3 q4
        go_wp2_with fail
        refine hcl.mono ?_
        clear hcl
        rintro e w5 ⟨ao6, c6, χ4, rfl, G4, d1, d2, d3⟩
        obtain ⟨hB4, hnA4⟩ := G4.keepA G.inv hB hnA
        obtain ⟨hg4, hgA4⟩ := G4.keepA G.inv g3 g2
        have hcv := clip_val (w := w5) (ao := ao6) d1 (by unfold LB at q2; omega)
        clear k0
        go_wp2_with fail
        refine hcv.mono ?_
        clear hcv
        rintro e w6 ⟨rfl, rfl⟩
        have k1 : w6.cell? ⟨g, j * 3 + 2, none⟩ = some (.slice ao5 l5 c5) := by rw [cell?_blk hg4, Array.getElem?_eq_getElem hlt3, hv]
        have f1 : w6.frozen? ⟨g, j * 3 + 2, none⟩ = false := by rw [frozen?_blk hg4]; simp
        have hgl := lt_of_blk hg4
        have hst' : GoodSt χ w (w.heap.size + 1) l (some ⟨g, 0, none⟩) aoe ce (j + 1) χ4 (w6.setCell ⟨g, j * 3 + 2, none⟩ (.slice ao6 l5 l5)) := by
          rw [setCell_blk hg4]
          refine ⟨(G.trans G4).setOwn (by omega) hgA4 hgl _, by rw [setBlk_get hgl, if_neg (by omega)]; exact hB4, hnA4, RowOK.ext G4.ext G4.ext.F G.inv.sub hout, .inr ⟨g, cap, _, rfl, g1, hgA4, by rw [setBlk_get hgl, if_pos rfl], g4, by simpa using g5, ?_⟩⟩
          exact AskMix.step G4.inv.sub (g6.ext G.inv.sub G4.ext) hjl (by unfold LB at q2; omega) (oct_short d3 d1)
        go_wp2
        go_roundg k <;> first | omega | exact ⟨j + 1, χ4, by omega, by go_num, hst'⟩
  · have hne : (r != 0) = true := by simpa using hr0
    have m0 : w2.cell? ⟨w.heap.size + 1, 0, none⟩ = some (.bool false) := by rw [cell?_blk hB2]; rfl
    go_wp2_with fail
    refine (ubad_any 3).mono ?_
    rintro e w3 ⟨rfl, hg3⟩
    have hB3 := (hg3.block _ (lt_of_blk hB2) (by simp)).trans hB2
    have G := GG.trans (TGrows.plain GG.inv hg3)
    clear m0
    have m0 : w3.cell? ⟨w.heap.size + 1, 0, none⟩ = some (.bool false) := by rw [cell?_blk hB3]; rfl
    have m1 : w3.cell? ⟨w.heap.size + 1, 1, none⟩ = some (.int .i64 0) := by rw [cell?_blk hB3]; rfl
    have m2 : w3.cell? ⟨w.heap.size + 1, 2, none⟩ = some (.slice none 0 0) := by rw [cell?_blk hB3]; rfl
    have m3 : w3.cell? ⟨w.heap.size + 1, 3, none⟩ = some (.slice none 0 0) := by rw [cell?_blk hB3]; rfl
    have f : ∀ i, w3.frozen? ⟨w.heap.size + 1, i, none⟩ = false := fun i => by rw [frozen?_blk hB3]; simp
    have f0 := f 0
    have f1 := f 1
    have f2 := f 2
    have f3 := f 3
    clear f
    go_wp2
    rw [set4 hB3]
    have hlt := lt_of_blk hB3
    have hnA3 : ¬ χ2.A (w.heap.size + 1) := hnA2
    have hBf : (setBlk w3 (w.heap.size + 1) (.cells #[.bool false, .int .i64 3, .slice none 0 0, .slice none 0 0] 47 (0, 0))).heap[w.heap.size + 1]? = some (.cells #[.bool false, .int .i64 3, .slice none 0 0, .slice none 0 0] 47 (0, 0)) := by rw [setBlk_get hlt, if_pos rfl]
    have Gf := G.setOwn (by omega) hnA3 hlt (.cells #[.bool false, .int .i64 3, .slice none 0 0, .slice none 0 0] 47 (0, 0))
    clear m0 m1 m2 m3 f0 f1 f2 f3 hB3 hB2
    generalize setBlk w3 (w.heap.size + 1) (.cells #[.bool false, .int .i64 3, .slice none 0 0, .slice none 0 0] 47 (0, 0)) = wf at *
    have y0 : wf.cell? ⟨w.heap.size + 1, 0, none⟩ = some (.bool false) := by rw [cell?_blk hBf]; rfl
    have y1 : wf.cell? ⟨w.heap.size + 1, 1, none⟩ = some (.int .i64 3) := by rw [cell?_blk hBf]; rfl
    have y2 : wf.cell? ⟨w.heap.size + 1, 2, none⟩ = some (.slice none 0 0) := by rw [cell?_blk hBf]; rfl
    have y3 : wf.cell? ⟨w.heap.size + 1, 3, none⟩ = some (.slice none 0 0) := by rw [cell?_blk hBf]; rfl
    exact bodyPost_ret (v := .agg #[.bool false, .int .i64 3, .slice none 0 0, .slice none 0 0]) (by simp [results, Tryz.results20, go_sem, y0, y1, y2, y3]) rfl
      ⟨false, 3, none, 0, 0, none, 0, 0, χ2, rfl, Gf, by omega, by omega, Nat.le_refl _, Nat.zero_le _, rfl, by omega, Nat.le_refl _, Nat.zero_le _, rfl⟩

noncomputable def cUgood : Contract := conOfX Tryz.prog 2000 65536 [] [] [] [] ((Tryz.prog.funcs[20]?).getD default)

set_option maxRecDepth 100000 in
theorem hand20 (h10 : FnOK Tryz.prog 10 cUenc) (h102 : FnOK Tryz.prog 102 cSclone) : FnOK Tryz.prog 20 cUgood := by
  have e1 : cUgood.iv = [some (0, 2000), some (0, 2000), some (0, 2000), some (0, 65535), some (0, 4294967295), some (0, 65535), some (0, 1), some (0, 2000), some (0, 9223372036854775807)] := by kernel_rfl
  have e2 : cUgood.params = [.pv (.agg [.str (.v 0), .str (.v 1), .str (.v 2), .int .u16 (.v 3), .int .u32 (.v 4), .int .u16 (.v 5), .bool (.eq (.v 6) (.c 1))]), .pv (.one (.slice false (.base 140) (.v 7) (.v 8)))] := by kernel_rfl
  have e4 : cUgood.riv = [some (0, 1), some (-9223372036854775808, 9223372036854775807), some (0, 65536), some (0, 9223372036854775807), some (0, 65536), some (0, 9223372036854775807)] := by kernel_rfl
  have e5 : cUgood.res = .pv (.agg [.bool (.eq (.v 9) (.c 1)), .int .i64 (.v 10), .slice true (.base 5) (.v 11) (.v 12), .slice true (.base 140) (.v 13) (.v 14)]) := by kernel_rfl
  have e6 : cUgood.post = [.le (.v 11) (.v 12), .le (.v 13) (.v 14)] := by kernel_rfl
  have e7 : cUgood.nv = 9 := by simp [Contract.nv, e1]
  intro χ w args hinv ha hi hp _
  rw [e2] at ha
  rw [e1] at hi
  obtain ⟨args⟩ := args
  match args, ha with
  | [a, b], ⟨ha, hb, _⟩ =>
    obtain ⟨cs, rfl, hcs, _⟩ := ha
    obtain ⟨cs⟩ := cs
    match cs, hcs with
    | [v0, v1, v2, v3, v4, v5, v6], ⟨g0, g1, g2, g3, g4, g5, g6, _⟩ =>
      obtain ⟨ao, l, c, rfl, p1, p2, p3, p4, p5⟩ := hb
      obtain ⟨s0, rfl, z0⟩ := g0
      obtain ⟨s1, rfl, z1⟩ := g1
      obtain ⟨s2, rfl, z2⟩ := g2
      simp only [gSV, T.ev] at g3 g4 g5 g6
      subst g3 g4 g5 g6
      simp only [T.ev] at p1 p2 z0 z1 z2
      obtain ⟨i0, i1, i2, i3, i4, i5, i6, i7, i8, _⟩ := hi
      simp only [SE.ev, tauAsk] at p5
      have hl : l ≤ 2000 := by have h : χ.ρ 7 ≤ 2000 := i7.2; omega
      have y0 : s0.size ≤ 1099511627776 := by have h : χ.ρ 0 ≤ 2000 := i0.2; omega
      have y1 : s1.size ≤ 1099511627776 := by have h : χ.ρ 1 ≤ 2000 := i1.2; omega
      have y2 : s2.size ≤ 1099511627776 := by have h : χ.ρ 2 ≤ 2000 := i2.2; omega
      refine (good_any h10 h102 hinv y0 y1 y2 i3 i4 i5 (by omega) p3 p4 p5).mono ?_
      rintro e w' ⟨b, r, ao1, l1, c1, ao2, l2, c2, χ2, rfl, G, r0, q1, q2, q3, q4, q5, q6, q7, q8⟩
      have k1 : Ext 9 χ (χ2.withρ (rext χ.ρ 9 [(if b then 1 else 0 : Int), r, (l1 : Int), (c1 : Int), (l2 : Int), (c2 : Int)])) := ⟨fun i hi => by simp only [Chi.withρ]; exact rext_lt hi, G.ext.F, G.ext.A, G.ext.κ⟩
      unfold CB at q3 q7
      have w0 : rext χ.ρ 9 [(if b then 1 else 0 : Int), r, (l1 : Int), (c1 : Int), (l2 : Int), (c2 : Int)] 9 = if b then 1 else 0 := rfl
      have w1 : rext χ.ρ 9 [(if b then 1 else 0 : Int), r, (l1 : Int), (c1 : Int), (l2 : Int), (c2 : Int)] 10 = r := rfl
      have w2 : rext χ.ρ 9 [(if b then 1 else 0 : Int), r, (l1 : Int), (c1 : Int), (l2 : Int), (c2 : Int)] 11 = l1 := rfl
      have w3 : rext χ.ρ 9 [(if b then 1 else 0 : Int), r, (l1 : Int), (c1 : Int), (l2 : Int), (c2 : Int)] 12 = c1 := rfl
      have w4 : rext χ.ρ 9 [(if b then 1 else 0 : Int), r, (l1 : Int), (c1 : Int), (l2 : Int), (c2 : Int)] 13 = l2 := rfl
      have w5 : rext χ.ρ 9 [(if b then 1 else 0 : Int), r, (l1 : Int), (c1 : Int), (l2 : Int), (c2 : Int)] 14 = c2 := rfl
      refine ⟨_, _, rfl, by rw [e7]; exact k1, G.mem.withρ _, G.inv.withρ _, ?_, ?_, ?_⟩
      · rw [e5]
        refine ⟨_, rfl, ⟨?_, ?_, ⟨ao1, l1, c1, rfl, ?_, ?_, q2, q3, ?_⟩, ⟨ao2, l2, c2, rfl, ?_, ?_, q6, q7, ?_⟩, trivial⟩, ?_⟩
        · simp only [gSV, Fm.b, T.ev, Chi.withρ, w0]
          cases b <;> simp
        · simp only [gSV, T.ev, Chi.withρ, w1]
        · simp only [T.ev, Chi.withρ, w2]
        · simp only [T.ev, Chi.withρ, w3]
        · simp only [SE.ev, tau5s]; exact q4
        · simp only [T.ev, Chi.withρ, w4]
        · simp only [T.ev, Chi.withρ, w5]
        · simp only [SE.ev, tauAsk]; exact q8
        · intro x hx
          simp only [List.mem_cons, List.not_mem_nil, or_false] at hx
          rcases hx with rfl | rfl | rfl | rfl <;> rfl
      · rw [e7, e4]
        simp only [ivOK, Chi.withρ, w0, w1, w2, w3, w4, w5]
        refine ⟨?_, by omega, by omega, by omega, by omega, by omega, trivial⟩
        cases b <;> simp
      · rw [e6]
        simp only [holdsAll, Fm.holds, T.ev, Chi.withρ, w2, w3, w4, w5]
        exact ⟨by omega, by omega, trivial⟩

end Go.Sx


