/- Part TitW of a proof: helper lemmas; no conditions. -/
import Derived.Test.YtnnaehcmchndmaaGreatDoorLS
import Derived.Test.YtnnaehcmchndmaaGreatDoorI
import Derived.Test.YtnnaehcmchndmaaGreatDoorL
import Derived.Test.YtnnaehcmchndmaaGreatDoorProg
import Derived.WalkKit
import Derived.WalkSpells
import Derived.StillTactics
import Derived.OwnWalk
import Derived.Laws.Pointers
import Derived.Deep.RegionLaw
import Derived.Deep.AppendLies
import Derived.Deep.LoopGhost
import Derived.KernelRfl

set_option linter.unusedSimpArgs false
set_option linter.unusedVariables false

namespace Go.Sx
open Go Go.Proofs

theorem infoI : (Tryz.prog.info? 3).map (fun i => (i.zero, i.size, i.bytes)) = some (some (.int .i64 0), 1, 8) := by kernel_rfl

theorem infoS : (Tryz.prog.info? 9).map (fun i => (i.zero, i.size, i.bytes)) = some (some (.string ByteArray.empty), 1, 16) := by kernel_rfl

set_option maxRecDepth 100000 in
set_option maxHeartbeats 3200000 in
theorem see121 : SeeOK Tryz.prog 3 9 121 .str := by
  intro w Z be oe base bx ox at_ vn vs ns ss hat hfar he hroom
  obtain ⟨z, hx, hzs⟩ := hat.str
  obtain ⟨hxb, hxe⟩ := hfar bx hat.1
  have e1 := he.c1
  have e2 := he.c2
  have hfz := he.f1
  have hown := he.os
  have hbase := he.base
  have hlen : ss.length + 1 ≤ 1000000000 := by have h1 := hroom.s; have h2 := RM_eq; simp only [D.co] at h1; omega
  have le := World.block_lt_of_cell? w _ e1
  have lx := World.block_lt_of_cell? w _ hx
  obtain ⟨i9, hi, hy0, hy1, hy2⟩ := info_parts infoS
  generalize hxs : ss.map Value.string = xs at hown
  generalize hn : ss.length = n at hown hlen
  go_enter Tryz.func121, Tryz.ntmps121
  go_wp2
  go_region_law
    ((refine step_append_lies _ (by rfl) _ _ _ (by rfl) base 9 i9 _ 1 16 Tryz.underlying154 hi hy0 hy1 hy2 rfl (by omega) vs n xs (by rfl) ((hown.alloc _).drew)
        ⟨w.heap.size, 0, none⟩ 1 1 [.string z] (by rfl) (by rfl) (World.news_of_block (cs := #[.string z]) (t := 9) (fr := (0, 0)) (heap_alloc_new w _)) (by simp [Value.oneCell'])
        (by omega) (by unfold maxLen; omega) (by omega) (by simp; omega) (w.heap.size + 1) (by simp) ?_; intro gg cap w1 hown1 hgrow hat1 hlt1
      have hc1 : w1.cell? ⟨be, oe + 1, none⟩ = some vs := (he.grown (grown_past hgrow) he.bs (oe + 1)).1.trans e1
      have hf1 : w1.frozen? ⟨be, oe + 1, none⟩ = false := (he.grown (grown_past hgrow) he.bs (oe + 1)).2.trans hfz))
  all_goals go_end0
  all_goals
    subst hn hxs
    exact SeePost.str he (grown_past hgrow) hx hown1 (hat1.imp id fun e => by omega)

set_option maxRecDepth 100000 in
set_option maxHeartbeats 3200000 in
theorem all211 (h : Nat) (hfn : Func) (hh : Tryz.prog.funcs[h]? = some hfn) (hbody : hfn.body.isSome = true) (hname : (hfn.name == "runtime.NumGoroutine") = false) (hsee : SeeOK Tryz.prog 3 9 h ((.int .u8))) : AllOK Tryz.prog 3 9 211 h 5 ((.int .u8)) := by
  intro w Z be oe base ao l c at_ vn vs ns ss hrow hlb hfar he hroom
  unfold maxLen at hlb
  have e0 := he.c0
  have hfz := he.f0
  have hown := he.on
  have hbase := he.base
  have hlen : ns.length + 1 ≤ 1000000 := by have := hroom.n; simp only [D.bnd] at this; omega
  have le := World.block_lt_of_cell? w _ e0
  obtain ⟨i3, hi, hy0, hy1, hy2⟩ := info_parts infoI
  generalize hxs : ns.map (Value.int .i64) = xs at hown
  generalize hn : ns.length = n at hown hlen
  go_enter Tryz.func211, Tryz.ntmps211
  go_wp2_with
    ((at_builtin; refine wpList_append_lies _ rfl _ _ _ rfl base 3 i3 _ 1 8 Tryz.underlying96 hi hy0 hy1 hy2 rfl (by omega) vn n xs rfl (hown.alloc _)
        ⟨w.heap.size, 0, none⟩ 1 1 [.int .i64 l] rfl rfl (World.news_of_block (cs := #[.int .i64 l]) (t := 3) (fr := (0, 0)) (heap_alloc_new w _)) (by simp [Value.oneCell'])
        (by omega) (by unfold maxLen; omega) (by omega) (by simp; omega) (w.heap.size + 1) (by simp) ?_; intro gg cap w1 hown1 hgrow hat1 hlt1
      have hc1 : w1.cell? ⟨be, oe, none⟩ = some vn := (he.grown (grown_past0 hgrow) he.bn oe).1.trans e0
      have hf1 : w1.frozen? ⟨be, oe, none⟩ = false := (he.grown (grown_past0 hgrow) he.bn oe).2.trans hfz))
  subst hn hxs
  obtain ⟨he1, hk1⟩ := he.addN (grown_past0 hgrow) hown1 (hat1.imp id fun e => by omega)
  have hr0 : AllRel 3 9 w be oe base at_ (elem w ((.int .u8)) ao) l (ns ++ [(l : Int)], ss) ((.int .u8) : D).co l 0 (w1.setCell ⟨be, oe, none⟩ (.slice (some ⟨gg, 0, none⟩) (ns.length + 1) cap)) _ vs (ns ++ [(l : Int)], ss) :=
    ⟨by omega, hk1, he1, rfl, Nat.le_refl _, Nat.le_refl _, by omega⟩
  generalize w1.setCell ⟨be, oe, none⟩ (.slice (some ⟨gg, 0, none⟩) (ns.length + 1) cap) = w2 at *
  clear he1 hk1 hown1 hgrow hat1 hlt1 hc1 hf1 hown
  go_loopg [6] l (fun k p wr => ∃ (i : Nat) (vn' vs' : Value) (st : Seen), p = .int .i64 i ∧ AllRel 3 9 w be oe base at_ (elem w ((.int .u8)) ao) l (ns ++ [(l : Int)], ss) ((.int .u8) : D).co k i wr vn' vs' st)
  · exact ⟨0, _, _, _, by simp, hr0⟩
  · clear hr0
    obtain ⟨i, vn', vs', st, rfl, hr⟩ := hrel
    obtain ⟨ao', cp, rfl⟩ := hr.eye.formN
    have q0 := hr.eye.c0
    cases gk with
    | zero =>
      have hil : decide (i < l) = false := by have := hr.ik; simp; omega
      go_wp2
      go_end0
      exact hr.out (.inl rfl)
    | succ k =>
      have hil : decide (i < l) = true := by have := hr.ik; simp; omega
      by_cases hlt : st.1.length < 200000
      · obtain ⟨b', o', rfl, hil2, hcall⟩ := hr.round (t := 5) (e := (.int .u8)) rfl rfl hrow hfar hroom hsee hlt
        have hd : decide ((st.1.length : Int) < 200000) = true := by simp; omega
        have hcf := run_callFn hh hbody hname
        have hi40 : (i : Int) ≤ 1099511627776 := by have := hr.ni; omega
        have hi0 : (0 : Int) ≤ (i : Int) := by omega
        rw [show ((.int .u8) : D).size = 1 from rfl] at hcall; try simp only [Nat.mul_one] at hcall
        go_wp2_with ((refine hcall.mono ?_; rintro e w' ⟨rfl, vn2, vs2, st2, hr2⟩))
        go_roundg k
        case measure => omega
        case rel => exact ⟨i + 1, vn2, vs2, st2, by go_num, hr2⟩
      · have hd : decide ((st.1.length : Int) < 200000) = false := by simp; omega
        go_wp2
        go_end0
        exact hr.out (.inr (by omega))

set_option maxRecDepth 100000 in
set_option maxHeartbeats 3200000 in
theorem see212 : SeeOK Tryz.prog 3 9 212 (.int .u8) := by
  intro w Z be oe base bx ox at_ vn vs ns ss hat hfar he hroom
  obtain ⟨z, hx, hz1, hz2⟩ := hat.int
  obtain ⟨hxb, hxe⟩ := hfar bx hat.1
  have e0 := he.c0
  have e2 := he.c2
  have hfz := he.f0
  have hown := he.on
  have hbase := he.base
  have hlen : ns.length + 1 ≤ 1000000 := by have := hroom.n; simp only [D.bnd] at this; omega
  have le := World.block_lt_of_cell? w _ e0
  have lx := World.block_lt_of_cell? w _ hx
  obtain ⟨i3, hi, hy0, hy1, hy2⟩ := info_parts infoI
  generalize hxs : ns.map (Value.int .i64) = xs at hown
  generalize hn : ns.length = n at hown hlen
  go_enter Tryz.func212, Tryz.ntmps212
  go_wp2
  go_region_law
    ((refine step_append_lies _ (by rfl) _ _ _ (by rfl) base 3 i3 _ 1 8 Tryz.underlying96 hi hy0 hy1 hy2 rfl (by omega) vn n xs (by rfl) ((hown.alloc _).drew)
        ⟨w.heap.size, 0, none⟩ 1 1 [.int .i64 (IntKind.i64.wrap z)] (by rfl) (by rfl) (World.news_of_block (cs := #[.int .i64 (IntKind.i64.wrap z)]) (t := 3) (fr := (0, 0)) (heap_alloc_new w _)) (by simp [Value.oneCell'])
        (by omega) (by unfold maxLen; omega) (by omega) (by simp; omega) (w.heap.size + 1) (by simp) ?_; intro gg cap w1 hown1 hgrow hat1 hlt1
      have hc1 : w1.cell? ⟨be, oe, none⟩ = some vn := (he.grown (grown_past hgrow) he.bn oe).1.trans e0
      have hf1 : w1.frozen? ⟨be, oe, none⟩ = false := (he.grown (grown_past hgrow) he.bn oe).2.trans hfz))
  all_goals go_end0
  all_goals
    subst hn hxs
    exact SeePost.int he hgrow hx rfl hown1 hat1

set_option maxRecDepth 100000 in
set_option maxHeartbeats 3200000 in
theorem all222 (h : Nat) (hfn : Func) (hh : Tryz.prog.funcs[h]? = some hfn) (hbody : hfn.body.isSome = true) (hname : (hfn.name == "runtime.NumGoroutine") = false) (hsee : SeeOK Tryz.prog 3 9 h ((.seq .str (.seq .bool (.seq .str (.seq (.int .u16) (.int .u8))))))) : AllOK Tryz.prog 3 9 222 h 324 ((.seq .str (.seq .bool (.seq .str (.seq (.int .u16) (.int .u8)))))) := by
  intro w Z be oe base ao l c at_ vn vs ns ss hrow hlb hfar he hroom
  unfold maxLen at hlb
  have e0 := he.c0
  have hfz := he.f0
  have hown := he.on
  have hbase := he.base
  have hlen : ns.length + 1 ≤ 1000000 := by have := hroom.n; simp only [D.bnd] at this; omega
  have le := World.block_lt_of_cell? w _ e0
  obtain ⟨i3, hi, hy0, hy1, hy2⟩ := info_parts infoI
  generalize hxs : ns.map (Value.int .i64) = xs at hown
  generalize hn : ns.length = n at hown hlen
  go_enter Tryz.func222, Tryz.ntmps222
  go_wp2_with
    ((at_builtin; refine wpList_append_lies _ rfl _ _ _ rfl base 3 i3 _ 1 8 Tryz.underlying96 hi hy0 hy1 hy2 rfl (by omega) vn n xs rfl (hown.alloc _)
        ⟨w.heap.size, 0, none⟩ 1 1 [.int .i64 l] rfl rfl (World.news_of_block (cs := #[.int .i64 l]) (t := 3) (fr := (0, 0)) (heap_alloc_new w _)) (by simp [Value.oneCell'])
        (by omega) (by unfold maxLen; omega) (by omega) (by simp; omega) (w.heap.size + 1) (by simp) ?_; intro gg cap w1 hown1 hgrow hat1 hlt1
      have hc1 : w1.cell? ⟨be, oe, none⟩ = some vn := (he.grown (grown_past0 hgrow) he.bn oe).1.trans e0
      have hf1 : w1.frozen? ⟨be, oe, none⟩ = false := (he.grown (grown_past0 hgrow) he.bn oe).2.trans hfz))
  subst hn hxs
  obtain ⟨he1, hk1⟩ := he.addN (grown_past0 hgrow) hown1 (hat1.imp id fun e => by omega)
  have hr0 : AllRel 3 9 w be oe base at_ (elem w ((.seq .str (.seq .bool (.seq .str (.seq (.int .u16) (.int .u8)))))) ao) l (ns ++ [(l : Int)], ss) ((.seq .str (.seq .bool (.seq .str (.seq (.int .u16) (.int .u8))))) : D).co l 0 (w1.setCell ⟨be, oe, none⟩ (.slice (some ⟨gg, 0, none⟩) (ns.length + 1) cap)) _ vs (ns ++ [(l : Int)], ss) :=
    ⟨by omega, hk1, he1, rfl, Nat.le_refl _, Nat.le_refl _, by omega⟩
  generalize w1.setCell ⟨be, oe, none⟩ (.slice (some ⟨gg, 0, none⟩) (ns.length + 1) cap) = w2 at *
  clear he1 hk1 hown1 hgrow hat1 hlt1 hc1 hf1 hown
  go_loopg [6] l (fun k p wr => ∃ (i : Nat) (vn' vs' : Value) (st : Seen), p = .int .i64 i ∧ AllRel 3 9 w be oe base at_ (elem w ((.seq .str (.seq .bool (.seq .str (.seq (.int .u16) (.int .u8)))))) ao) l (ns ++ [(l : Int)], ss) ((.seq .str (.seq .bool (.seq .str (.seq (.int .u16) (.int .u8))))) : D).co k i wr vn' vs' st)
  · exact ⟨0, _, _, _, by simp, hr0⟩
  · clear hr0
    obtain ⟨i, vn', vs', st, rfl, hr⟩ := hrel
    obtain ⟨ao', cp, rfl⟩ := hr.eye.formN
    have q0 := hr.eye.c0
    cases gk with
    | zero =>
      have hil : decide (i < l) = false := by have := hr.ik; simp; omega
      go_wp2
      go_end0
      exact hr.out (.inl rfl)
    | succ k =>
      have hil : decide (i < l) = true := by have := hr.ik; simp; omega
      by_cases hlt : st.1.length < 200000
      · obtain ⟨b', o', rfl, hil2, hcall⟩ := hr.round (t := 324) (e := (.seq .str (.seq .bool (.seq .str (.seq (.int .u16) (.int .u8)))))) rfl rfl hrow hfar hroom hsee hlt
        have hd : decide ((st.1.length : Int) < 200000) = true := by simp; omega
        have hcf := run_callFn hh hbody hname
        have hi40 : (i : Int) ≤ 1099511627776 := by have := hr.ni; omega
        have hi0 : (0 : Int) ≤ (i : Int) := by omega
        rw [show ((.seq .str (.seq .bool (.seq .str (.seq (.int .u16) (.int .u8))))) : D).size = 5 from rfl] at hcall; try simp only [Nat.mul_one] at hcall
        go_wp2_with ((refine hcall.mono ?_; rintro e w' ⟨rfl, vn2, vs2, st2, hr2⟩))
        go_roundg k
        case measure => omega
        case rel => exact ⟨i + 1, vn2, vs2, st2, by go_num, hr2⟩
      · have hd : decide ((st.1.length : Int) < 200000) = false := by simp; omega
        go_wp2
        go_end0
        exact hr.out (.inr (by omega))

set_option maxRecDepth 100000 in
set_option maxHeartbeats 3200000 in
theorem see295 : SeeOK Tryz.prog 3 9 295 .bool := by
  intro w Z be oe base bx ox at_ vn vs ns ss hat hfar he hroom
  obtain ⟨z, hx⟩ := hat.bool
  obtain ⟨hxb, hxe⟩ := hfar bx hat.1
  have hxf := hat.2.1
  have hself : w.drew.setCell ⟨bx, ox, none⟩ (.bool z) = w.drew := setCell_self hx
  have e0 := he.c0
  have e2 := he.c2
  have hfz := he.f0
  have hown := he.on
  have hbase := he.base
  have hlen : ns.length + 1 ≤ 1000000 := by have := hroom.n; simp only [D.bnd] at this; omega
  have le := World.block_lt_of_cell? w _ e0
  have lx := World.block_lt_of_cell? w _ hx
  obtain ⟨i3, hi, hy0, hy1, hy2⟩ := info_parts infoI
  generalize hxs : ns.map (Value.int .i64) = xs at hown
  generalize hn : ns.length = n at hown hlen
  cases z
  · go_enter Tryz.func295, Tryz.ntmps295
    go_wp2
    go_region_law (fail)
    all_goals go_wp2_with
      ((at_builtin; refine wpList_append_lies _ rfl _ _ _ rfl base 3 i3 _ 1 8 Tryz.underlying96 hi hy0 hy1 hy2 rfl (by omega) vn n xs rfl ((hown.alloc _).drew)
            ⟨w.heap.size, 0, none⟩ 1 1 [.int .i64 0] rfl rfl (World.news_of_block (cs := #[.int .i64 0]) (t := 3) (fr := (0, 0)) (heap_alloc_new w _)) (by simp [Value.oneCell'])
            (by omega) (by unfold maxLen; omega) (by omega) (by simp; omega) (w.heap.size + 1) (by simp) ?_; intro gg cap w1 hown1 hgrow hat1 hlt1
        have hc1 : w1.cell? ⟨be, oe, none⟩ = some vn := (he.grown (grown_past hgrow) he.bn oe).1.trans e0
        have hf1 : w1.frozen? ⟨be, oe, none⟩ = false := (he.grown (grown_past hgrow) he.bn oe).2.trans hfz))
    all_goals go_end0
    all_goals
      subst hn hxs
      exact SeePost.bool he (grown_past hgrow) hx rfl hown1 (hat1.imp id fun e => by omega)
  · go_enter Tryz.func295, Tryz.ntmps295
    go_wp2
    go_region_law (fail)
    all_goals go_wp2_with
      ((at_builtin; refine wpList_append_lies _ rfl _ _ _ rfl base 3 i3 _ 1 8 Tryz.underlying96 hi hy0 hy1 hy2 rfl (by omega) vn n xs rfl ((hown.alloc _).drew)
            ⟨w.heap.size, 0, none⟩ 1 1 [.int .i64 1] rfl rfl (World.news_of_block (cs := #[.int .i64 1]) (t := 3) (fr := (0, 0)) (heap_alloc_new w _)) (by simp [Value.oneCell'])
            (by omega) (by unfold maxLen; omega) (by omega) (by simp; omega) (w.heap.size + 1) (by simp) ?_; intro gg cap w1 hown1 hgrow hat1 hlt1
        have hc1 : w1.cell? ⟨be, oe, none⟩ = some vn := (he.grown (grown_past hgrow) he.bn oe).1.trans e0
        have hf1 : w1.frozen? ⟨be, oe, none⟩ = false := (he.grown (grown_past hgrow) he.bn oe).2.trans hfz))
    all_goals go_end0
    all_goals
      subst hn hxs
      exact SeePost.bool he (grown_past hgrow) hx rfl hown1 (hat1.imp id fun e => by omega)

set_option maxRecDepth 100000 in
set_option maxHeartbeats 3200000 in
theorem see136 : SeeOK Tryz.prog 3 9 136 (.int .u16) := by
  intro w Z be oe base bx ox at_ vn vs ns ss hat hfar he hroom
  obtain ⟨z, hx, hz1, hz2⟩ := hat.int
  obtain ⟨hxb, hxe⟩ := hfar bx hat.1
  have e0 := he.c0
  have e2 := he.c2
  have hfz := he.f0
  have hown := he.on
  have hbase := he.base
  have hlen : ns.length + 1 ≤ 1000000 := by have := hroom.n; simp only [D.bnd] at this; omega
  have le := World.block_lt_of_cell? w _ e0
  have lx := World.block_lt_of_cell? w _ hx
  obtain ⟨i3, hi, hy0, hy1, hy2⟩ := info_parts infoI
  generalize hxs : ns.map (Value.int .i64) = xs at hown
  generalize hn : ns.length = n at hown hlen
  go_enter Tryz.func136, Tryz.ntmps136
  go_wp2
  go_region_law
    ((refine step_append_lies _ (by rfl) _ _ _ (by rfl) base 3 i3 _ 1 8 Tryz.underlying96 hi hy0 hy1 hy2 rfl (by omega) vn n xs (by rfl) ((hown.alloc _).drew)
        ⟨w.heap.size, 0, none⟩ 1 1 [.int .i64 (IntKind.i64.wrap z)] (by rfl) (by rfl) (World.news_of_block (cs := #[.int .i64 (IntKind.i64.wrap z)]) (t := 3) (fr := (0, 0)) (heap_alloc_new w _)) (by simp [Value.oneCell'])
        (by omega) (by unfold maxLen; omega) (by omega) (by simp; omega) (w.heap.size + 1) (by simp) ?_; intro gg cap w1 hown1 hgrow hat1 hlt1
      have hc1 : w1.cell? ⟨be, oe, none⟩ = some vn := (he.grown (grown_past hgrow) he.bn oe).1.trans e0
      have hf1 : w1.frozen? ⟨be, oe, none⟩ = false := (he.grown (grown_past hgrow) he.bn oe).2.trans hfz))
  all_goals go_end0
  all_goals
    subst hn hxs
    exact SeePost.int he hgrow hx rfl hown1 hat1

set_option maxRecDepth 100000 in
set_option maxHeartbeats 3200000 in
theorem all217 (h : Nat) (hfn : Func) (hh : Tryz.prog.funcs[h]? = some hfn) (hbody : hfn.body.isSome = true) (hname : (hfn.name == "runtime.NumGoroutine") = false) (hsee : SeeOK Tryz.prog 3 9 h .str) : AllSOK Tryz.prog 3 9 217 h 9 := by
  intro w Z be oe base ao l c at_ vn vs ns ss hrow hlb hfar he hroom
  have e0 := he.c0
  have hfz := he.f0
  have hown := he.on
  have hbase := he.base
  have hlen : ns.length + 1 ≤ 1000000 := by have := hroom.n; simp only [D.bnd] at this; omega
  have le := World.block_lt_of_cell? w _ e0
  obtain ⟨i3, hi, hy0, hy1, hy2⟩ := info_parts infoI
  generalize hxs : ns.map (Value.int .i64) = xs at hown
  generalize hn : ns.length = n at hown hlen
  go_enter Tryz.func217, Tryz.ntmps217
  go_wp2_with
    ((at_builtin; refine wpList_append_lies _ rfl _ _ _ rfl base 3 i3 _ 1 8 Tryz.underlying96 hi hy0 hy1 hy2 rfl (by omega) vn n xs rfl (hown.alloc _)
        ⟨w.heap.size, 0, none⟩ 1 1 [.int .i64 l] rfl rfl (World.news_of_block (cs := #[.int .i64 l]) (t := 3) (fr := (0, 0)) (heap_alloc_new w _)) (by simp [Value.oneCell'])
        (by omega) (by unfold maxLen; omega) (by omega) (by simp; omega) (w.heap.size + 1) (by simp) ?_; intro gg cap w1 hown1 hgrow hat1 hlt1
      have hc1 : w1.cell? ⟨be, oe, none⟩ = some vn := (he.grown (grown_past0 hgrow) he.bn oe).1.trans e0
      have hf1 : w1.frozen? ⟨be, oe, none⟩ = false := (he.grown (grown_past0 hgrow) he.bn oe).2.trans hfz))
  subst hn hxs
  obtain ⟨he1, hk1⟩ := he.addN (grown_past0 hgrow) hown1 (hat1.imp id fun e => by omega)
  have hr0 : AllSRel 3 9 w be oe base at_ (elem w .str ao) l (ns ++ [(l : Int)], ss) l 0 (w1.setCell ⟨be, oe, none⟩ (.slice (some ⟨gg, 0, none⟩) (ns.length + 1) cap)) _ vs (ns ++ [(l : Int)], ss) :=
    ⟨by omega, hk1, he1, rfl, rfl, rfl⟩
  generalize w1.setCell ⟨be, oe, none⟩ (.slice (some ⟨gg, 0, none⟩) (ns.length + 1) cap) = w2 at *
  clear he1 hk1 hown1 hgrow hat1 hlt1 hc1 hf1 hown
  go_loopg [6] l (fun k p wr => ∃ (i : Nat) (vn' vs' : Value) (st : Seen), p = .int .i64 i ∧ AllSRel 3 9 w be oe base at_ (elem w .str ao) l (ns ++ [(l : Int)], ss) k i wr vn' vs' st)
  · exact ⟨0, _, _, _, by simp, hr0⟩
  · clear hr0
    obtain ⟨i, vn', vs', st, rfl, hr⟩ := hrel
    obtain ⟨ao', cp, rfl⟩ := hr.eye.formN
    have q0 := hr.eye.c0
    cases gk with
    | zero =>
      have hil : decide (i < l) = false := by have := hr.ik; simp; omega
      go_wp2
      go_end0
      exact hr.out (.inl rfl)
    | succ k =>
      have hil : decide (i < l) = true := by have := hr.ik; simp; omega
      by_cases hlt : st.1.length < 200000
      · obtain ⟨b', o', rfl, hil2, hcall⟩ := hr.round (t := 9) hlb hrow hfar hroom hsee hlt
        have hd : decide ((st.1.length : Int) < 200000) = true := by simp; omega
        have hcf := run_callFn hh hbody hname
        have hi40 : (i : Int) ≤ 1099511627776 := by have := hr.ik; omega
        have hi0 : (0 : Int) ≤ (i : Int) := by omega
        go_wp2_with ((refine hcall.mono ?_; rintro e w' ⟨rfl, vn2, vs2, st2, hr2⟩))
        go_roundg k
        case measure => omega
        case rel => exact ⟨i + 1, vn2, vs2, st2, by go_num, hr2⟩
      · have hd : decide ((st.1.length : Int) < 200000) = false := by simp; omega
        go_wp2
        go_end0
        exact hr.out (.inr (by omega))

end Go.Sx

namespace Go.Sx
open Go Go.Proofs

set_option maxRecDepth 100000 in
set_option maxHeartbeats 3200000 in
theorem mark121 : MarkOK Tryz.prog 3 9 121 .str := by
  intro w χ be oe base bx ox at_ vn vs ns ss hinv hat hfar he hroom
  obtain ⟨z, hx, hz1⟩ := hat.str hinv.1
  obtain ⟨hxb, hxe⟩ := hfar bx hat.1
  have hxf := hinv.frozen hat.1 hx
  have e2 := he.c2
  have e3 := he.c3
  have hfz3 := he.f3
  have hbase := he.base
  have hlen : ss.length + 1 ≤ 1000000000 := by have h1 := hroom.s; have h2 := RM_eq; simp only [D.co] at h1; omega
  have le := World.block_lt_of_cell? w _ e3
  have lx := World.block_lt_of_cell? w _ hx
  obtain ⟨i9, hi, hy0, hy1, hy2⟩ := info_parts infoS
  go_enter Tryz.func121, Tryz.ntmps121
  go_wp2_with fail
  generalize hyy : RowKit.wrap64 (at_ + 1) = z2
  have hzr : z2 ≤ 9223372036854775807 := by
    have := RowKit.wrap64_wf (at_ + 1)
    rw [hyy] at this
    have : IntKind.i64.min ≤ z2 ∧ z2 ≤ IntKind.i64.max := by simpa [Lit.wf] using this
    have hm : IntKind.i64.max = 9223372036854775807 := by decide
    omega
  have he2 := (he.setAt z2).other (o := ox) (v := .string ⟨#[63]⟩) hxb hxe
  have hi2 := (hinv.far (o := oe + 3) (v := .int .i64 z2) (fun h => (hfar be h).2 rfl)).setStr (z := ⟨#[63]⟩) hat (by decide)
  have hk2 := (KeepsM.store (A := χ.A) (be := be) (base := base) w (b := be) (o := oe + 3) (v := .int .i64 z2) (.inl rfl)).trans (KeepsM.store _ (b := bx) (o := ox) (v := .string ⟨#[63]⟩) (.inr hat.1))
  have hx2 : ((w.setCell ⟨be, oe + 3, none⟩ (.int .i64 z2)).setCell ⟨bx, ox, none⟩ (.string ⟨#[63]⟩)).cell? ⟨bx, ox, none⟩ = some (.string ⟨#[63]⟩) :=
    cell_setCell_same ((World.cell?_of_block (heap_setCell_far hxe)).trans hx) rfl
  generalize (w.setCell ⟨be, oe + 3, none⟩ (.int .i64 z2)).setCell ⟨bx, ox, none⟩ (.string ⟨#[63]⟩) = w2 at *
  clear e2 e3 hfz3 hbase le lx hxf hx hz1 hyy
  go_loopg [4] 63 (fun k p wr => ∃ (n : Int) (s : ByteArray), p = .int .i64 n ∧ n < 2 ^ k ∧ n ≤ 9223372036854775807 ∧ s.size + k ≤ 64 ∧ KeepsM χ.A w wr be base ∧ InvF Tryz.prog χ wr ∧ EyeAt 3 9 wr be oe base true z2 vn vs ns ss ∧ wr.cell? ⟨bx, ox, none⟩ = some (.string s))
  · exact ⟨z2, ⟨#[63]⟩, by simp, by omega, hzr, by decide, hk2, hi2, he2, hx2⟩
  · clear hk2 hi2 he2 hx2 hzr
    obtain ⟨n, s, rfl, hn, hnm, hs, hk, hiv, he', hx'⟩ := hrel
    have hxf' := hiv.frozen hat.1 hx'
    by_cases hpos : 0 < n
    · cases gk with
      | zero => simp at hn; omega
      | succ k =>
        have hd : decide (0 < n) = true := by simpa using hpos
        have hn26 : n / 26 < 2 ^ k := by
          have h2 : (2 : Int) ^ (k + 1) = 2 ^ k * 2 := Int.pow_succ 2 k
          rw [h2] at hn
          generalize (2 : Int) ^ k = p at *
          omega
        have hn0 : 0 ≤ n := by omega
        have hq : RowKit.wrap64 (n.tdiv 26) = n / 26 := by
          rw [Int.tdiv_eq_ediv_of_nonneg hn0]
          unfold RowKit.wrap64; omega
        have lx := World.block_lt_of_cell? wr _ hx'
        obtain ⟨c, hc⟩ := u8_byte (IntKind.i64.wrap (97 + n.tmod 26))
        have hcv := conv1 Tryz.prog 29 9 5 (by kernel_rfl) (by kernel_rfl) (by kernel_rfl) c (wr.alloc (Obj.cells #[Value.int IntKind.u8 (c.toNat : Int)] 5)).drew wr.heap.size
          (by show (wr.alloc _).heap[_]? = _; rw [alloc_get, if_pos rfl])
        have hst := mstr_step (s' := s ++ ⟨#[c]⟩) hat hfar hk hiv he' hx' (by rw [ByteArray.size_append]; have : (⟨#[c]⟩ : ByteArray).size = 1 := rfl; unfold LB; omega) (Obj.cells #[Value.int IntKind.u8 (c.toNat : Int)] 5)
        have hsz : (s ++ ⟨#[c]⟩ : ByteArray).size = s.size + 1 := by rw [ByteArray.size_append]; rfl
        clear hk hiv he'
        obtain ⟨hk, hiv, he', hx2⟩ := hst
        have hle : ¬ (9223372036854775807 < s.size + 1) := by omega
        go_wp2
        go_region_law (fail)
        all_goals go_wp2
        all_goals (go_roundg k <;> first | omega | exact ⟨n / 26, s ++ ⟨#[c]⟩, by first | rfl | rw [hq] | go_num, hn26, by omega, by rw [hsz]; omega, hk, hiv, he', hx2⟩)
    · have hd : decide (0 < n) = false := by simpa using hpos
      have e1 := he'.c1
      have hfz := he'.f1
      have hown := he'.os
      have hbase := he'.base
      have le := World.block_lt_of_cell? wr _ e1
      have lx := World.block_lt_of_cell? wr _ hx'
      generalize hxs : ss.map Value.string = xs at hown
      generalize hnn : ss.length = m at hown hlen
      go_wp2
      go_region_law
        ((refine step_append_lies _ (by rfl) _ _ _ (by rfl) base 9 i9 _ 1 16 Tryz.underlying154 hi hy0 hy1 hy2 rfl (by omega) vs m xs (by rfl) ((hown.alloc _).drew)
            ⟨wr.heap.size, 0, none⟩ 1 1 [.string s] (by rfl) (by rfl) (World.news_of_block (cs := #[.string s]) (t := 9) (fr := (0, 0)) (heap_alloc_new wr _)) (by simp [Value.oneCell'])
            (by omega) (by unfold maxLen; omega) (by omega) (by simp; omega) (wr.heap.size + 1) (by simp) ?_; intro gg cap w1 hown1 hgrow hat1 hlt1
          have hc1 : w1.cell? ⟨be, oe + 1, none⟩ = some vs := (he'.grown (grown_past hgrow) he'.bs (oe + 1)).1.trans e1
          have hf1 : w1.frozen? ⟨be, oe + 1, none⟩ = false := (he'.grown (grown_past hgrow) he'.bs (oe + 1)).2.trans hfz))
      all_goals go_end0
      all_goals
        subst hnn hxs
        exact ⟨rfl, MarkEnd.str hk hiv hfar he' (grown_past hgrow) hown1 (hat1.imp id fun e => by omega)⟩

set_option maxRecDepth 100000 in
set_option maxHeartbeats 3200000 in
theorem allm211 (h : Nat) (hfn : Func) (hh : Tryz.prog.funcs[h]? = some hfn) (hbody : hfn.body.isSome = true) (hname : (hfn.name == "runtime.NumGoroutine") = false) (hsee : MarkOK Tryz.prog 3 9 h ((.int .u8))) : AllMOK Tryz.prog 3 9 211 h 5 ((.int .u8)) := by
  intro w χ be oe base ao l c at_ vn vs ns ss hinv hrow hlb hfar he hroom
  unfold maxLen at hlb
  have e0 := he.c0
  have hfz := he.f0
  have hown := he.on
  have hbase := he.base
  have hlen : ns.length + 1 ≤ 1000000 := by have := hroom.n; simp only [D.bnd] at this; omega
  have le := World.block_lt_of_cell? w _ e0
  obtain ⟨i3, hi, hy0, hy1, hy2⟩ := info_parts infoI
  generalize hxs : ns.map (Value.int .i64) = xs at hown
  generalize hn : ns.length = n at hown hlen
  go_enter Tryz.func211, Tryz.ntmps211
  go_wp2_with
    ((at_builtin; refine wpList_append_lies _ rfl _ _ _ rfl base 3 i3 _ 1 8 Tryz.underlying96 hi hy0 hy1 hy2 rfl (by omega) vn n xs rfl (hown.alloc _)
        ⟨w.heap.size, 0, none⟩ 1 1 [.int .i64 l] rfl rfl (World.news_of_block (cs := #[.int .i64 l]) (t := 3) (fr := (0, 0)) (heap_alloc_new w _)) (by simp [Value.oneCell'])
        (by omega) (by unfold maxLen; omega) (by omega) (by simp; omega) (w.heap.size + 1) (by simp) ?_; intro gg cap w1 hown1 hgrow hat1 hlt1
      have hc1 : w1.cell? ⟨be, oe, none⟩ = some vn := (he.grown (grown_past0 hgrow) he.bn oe).1.trans e0
      have hf1 : w1.frozen? ⟨be, oe, none⟩ = false := (he.grown (grown_past0 hgrow) he.bn oe).2.trans hfz))
  subst hn hxs
  obtain ⟨he1, hk1⟩ := he.addN (grown_past0 hgrow) hown1 (hat1.imp id fun e => by omega)
  have hr0 : AllMRel Tryz.prog 3 9 χ w be oe base l (ns.length + 1) ss.length ((.int .u8)) l 0 (w1.setCell ⟨be, oe, none⟩ (.slice (some ⟨gg, 0, none⟩) (ns.length + 1) cap)) at_ _ vs (ns ++ [(l : Int)]) ss :=
    ⟨by omega, hk1.m _, hinv.same (hk1.same hfar), he1, by simp, by simp; omega, by omega⟩
  have hn0 : max (ns.length + 1) 200000 + ((.int .u8) : D).bnd ≤ 1000000 := by have := hroom.n; simp only [D.bnd] at this ⊢; omega
  have hs0 : ss.length + 2 * ((.int .u8) : D).co * RM ≤ 1000000000 := hroom.s
  have hf0 : 200000 ≤ ns.length + 1 ∨ ((.int .u8) : D).fit (ns.length + 1) := hroom.fit.imp (fun h => by omega) id
  generalize w1.setCell ⟨be, oe, none⟩ (.slice (some ⟨gg, 0, none⟩) (ns.length + 1) cap) = w2 at *
  generalize Value.slice (some ⟨gg, 0, none⟩) (ns.length + 1) cap = vn0 at *
  clear he1 hk1 hown1 hgrow hat1 hlt1 hc1 hf1 hown
  go_loopg [6] l (fun k p wr => ∃ (i : Nat) (at' : Int) (vn' vs' : Value) (ns' : List Int) (ss' : List ByteArray), p = .int .i64 i ∧ AllMRel Tryz.prog 3 9 χ w be oe base l (ns.length + 1) ss.length ((.int .u8)) k i wr at' vn' vs' ns' ss')
  · exact ⟨0, _, _, _, _, _, by simp, hr0⟩
  · clear hr0
    obtain ⟨i, at', vn', vs', ns', ss', rfl, hr⟩ := hrel
    obtain ⟨ao', cp, rfl⟩ := hr.eye.formN
    have q0 := hr.eye.c0
    cases gk with
    | zero =>
      have hil : decide (i < l) = false := by have := hr.ik; simp; omega
      go_wp2
      go_end0
      exact ⟨rfl, hr.out⟩
    | succ k =>
      have hil : decide (i < l) = true := by have := hr.ik; simp; omega
      by_cases hlt : ns'.length < 200000
      · obtain ⟨b', o', rfl, hil2, hcall⟩ := hr.round (e := (.int .u8)) rfl hrow hfar hn0 hs0 hf0 hsee hlt
        have hd : decide ((ns'.length : Int) < 200000) = true := by simp; omega
        have hcf := run_callFn hh hbody hname
        have hi40 : (i : Int) ≤ 1099511627776 := by have := hr.n; omega
        have hi0 : (0 : Int) ≤ (i : Int) := by omega
        rw [show ((.int .u8) : D).size = 1 from rfl] at hcall; try simp only [Nat.mul_one] at hcall
        go_wp2_with ((refine hcall.mono ?_; rintro e w' ⟨rfl, at2, vn2, vs2, ns2, ss2, hr2⟩))
        go_roundg k
        case measure => omega
        case rel => exact ⟨i + 1, at2, vn2, vs2, ns2, ss2, by go_num, hr2⟩
      · have hd : decide ((ns'.length : Int) < 200000) = false := by simp; omega
        go_wp2
        go_end0
        exact ⟨rfl, hr.out⟩

set_option maxRecDepth 100000 in
set_option maxHeartbeats 3200000 in
theorem mark212 : MarkOK Tryz.prog 3 9 212 (.int .u8) := by
  intro w χ be oe base bx ox at_ vn vs ns ss hinv hat hfar he hroom
  obtain ⟨z, hx, hz1, hz2⟩ := hat.int hinv.1
  obtain ⟨hxb, hxe⟩ := hfar bx hat.1
  have hxf := hinv.frozen hat.1 hx
  have e0 := he.c0
  have e2 := he.c2
  have e3 := he.c3
  have hfz := he.f0
  have hfz3 := he.f3
  have hown := he.on
  have hbase := he.base
  have hlen : ns.length + 1 ≤ 1000000 := by have := hroom.n; simp only [D.bnd] at this; omega
  have le := World.block_lt_of_cell? w _ e0
  have lx := World.block_lt_of_cell? w _ hx
  obtain ⟨i3, hi, hy0, hy1, hy2⟩ := info_parts infoI
  go_enter Tryz.func212, Tryz.ntmps212
  go_wp2
  generalize hyy : RowKit.wrap64 (at_ + 1) = y2
  have hwr : IntKind.u8.wrap y2 = y2 % 256 := by first | rfl | simp [IntKind.wrap]
  try rw [hwr]
  clear hwr
  generalize hzz : y2 % 256 = z2
  have hzr : IntKind.u8.min ≤ z2 ∧ z2 ≤ IntKind.u8.max := by
    rw [← hzz, show IntKind.u8.min = 0 by decide, show IntKind.u8.max = 255 by decide]; omega
  have he2 := (he.setAt y2).other (o := ox) (v := .int .u8 z2) hxb hxe
  have hi2 := (hinv.far (o := oe + 3) (v := .int .i64 y2) (fun h => (hfar be h).2 rfl)).setInt hat hzr.1 hzr.2
  have hk2 := (KeepsM.store (A := χ.A) (be := be) (base := base) w (b := be) (o := oe + 3) (v := .int .i64 y2) (.inl rfl)).trans (KeepsM.store _ (b := bx) (o := ox) (v := .int .u8 z2) (.inr hat.1))
  have hx2 : ((w.setCell ⟨be, oe + 3, none⟩ (.int .i64 y2)).setCell ⟨bx, ox, none⟩ (.int .u8 z2)).cell? ⟨bx, ox, none⟩ = some (.int .u8 z2) :=
    cell_setCell_same ((World.cell?_of_block (heap_setCell_far hxe)).trans hx) rfl
  generalize (w.setCell ⟨be, oe + 3, none⟩ (.int .i64 y2)).setCell ⟨bx, ox, none⟩ (.int .u8 z2) = w2 at *
  clear e0 e2 e3 hfz hfz3 hown hbase le lx hxf hx hz1 hz2 hzz hyy
  have e0 := he2.c0
  have hfz := he2.f0
  have hown := he2.on
  have hbase := he2.base
  have le := World.block_lt_of_cell? w2 _ e0
  have lx := World.block_lt_of_cell? w2 _ hx2
  generalize hxs : ns.map (Value.int .i64) = xs at hown
  generalize hn : ns.length = n at hown hlen
  go_region_law
    ((refine step_append_lies _ (by rfl) _ _ _ (by rfl) base 3 i3 _ 1 8 Tryz.underlying96 hi hy0 hy1 hy2 rfl (by omega) vn n xs (by rfl) ((hown.alloc _).drew)
        ⟨w2.heap.size, 0, none⟩ 1 1 [.int .i64 (IntKind.i64.wrap z2)] (by rfl) (by rfl) (World.news_of_block (cs := #[.int .i64 (IntKind.i64.wrap z2)]) (t := 3) (fr := (0, 0)) (heap_alloc_new w2 _)) (by simp [Value.oneCell'])
        (by omega) (by unfold maxLen; omega) (by omega) (by simp; omega) (w2.heap.size + 1) (by simp) ?_; intro gg cap w1 hown1 hgrow hat1 hlt1
      have hc1 : w1.cell? ⟨be, oe, none⟩ = some vn := (he2.grown (grown_past hgrow) he2.bn oe).1.trans e0
      have hf1 : w1.frozen? ⟨be, oe, none⟩ = false := (he2.grown (grown_past hgrow) he2.bn oe).2.trans hfz))
  all_goals go_end0
  all_goals
    subst hn hxs
    exact ⟨rfl, MarkEnd.num ⟨rfl, rfl, rfl⟩ hk2 hi2 hfar he2 (grown_past hgrow) hown1 (hat1.imp id fun e => by omega)⟩

set_option maxRecDepth 100000 in
set_option maxHeartbeats 3200000 in
theorem allm222 (h : Nat) (hfn : Func) (hh : Tryz.prog.funcs[h]? = some hfn) (hbody : hfn.body.isSome = true) (hname : (hfn.name == "runtime.NumGoroutine") = false) (hsee : MarkOK Tryz.prog 3 9 h ((.seq .str (.seq .bool (.seq .str (.seq (.int .u16) (.int .u8))))))) : AllMOK Tryz.prog 3 9 222 h 324 ((.seq .str (.seq .bool (.seq .str (.seq (.int .u16) (.int .u8)))))) := by
  intro w χ be oe base ao l c at_ vn vs ns ss hinv hrow hlb hfar he hroom
  unfold maxLen at hlb
  have e0 := he.c0
  have hfz := he.f0
  have hown := he.on
  have hbase := he.base
  have hlen : ns.length + 1 ≤ 1000000 := by have := hroom.n; simp only [D.bnd] at this; omega
  have le := World.block_lt_of_cell? w _ e0
  obtain ⟨i3, hi, hy0, hy1, hy2⟩ := info_parts infoI
  generalize hxs : ns.map (Value.int .i64) = xs at hown
  generalize hn : ns.length = n at hown hlen
  go_enter Tryz.func222, Tryz.ntmps222
  go_wp2_with
    ((at_builtin; refine wpList_append_lies _ rfl _ _ _ rfl base 3 i3 _ 1 8 Tryz.underlying96 hi hy0 hy1 hy2 rfl (by omega) vn n xs rfl (hown.alloc _)
        ⟨w.heap.size, 0, none⟩ 1 1 [.int .i64 l] rfl rfl (World.news_of_block (cs := #[.int .i64 l]) (t := 3) (fr := (0, 0)) (heap_alloc_new w _)) (by simp [Value.oneCell'])
        (by omega) (by unfold maxLen; omega) (by omega) (by simp; omega) (w.heap.size + 1) (by simp) ?_; intro gg cap w1 hown1 hgrow hat1 hlt1
      have hc1 : w1.cell? ⟨be, oe, none⟩ = some vn := (he.grown (grown_past0 hgrow) he.bn oe).1.trans e0
      have hf1 : w1.frozen? ⟨be, oe, none⟩ = false := (he.grown (grown_past0 hgrow) he.bn oe).2.trans hfz))
  subst hn hxs
  obtain ⟨he1, hk1⟩ := he.addN (grown_past0 hgrow) hown1 (hat1.imp id fun e => by omega)
  have hr0 : AllMRel Tryz.prog 3 9 χ w be oe base l (ns.length + 1) ss.length ((.seq .str (.seq .bool (.seq .str (.seq (.int .u16) (.int .u8)))))) l 0 (w1.setCell ⟨be, oe, none⟩ (.slice (some ⟨gg, 0, none⟩) (ns.length + 1) cap)) at_ _ vs (ns ++ [(l : Int)]) ss :=
    ⟨by omega, hk1.m _, hinv.same (hk1.same hfar), he1, by simp, by simp; omega, by omega⟩
  have hn0 : max (ns.length + 1) 200000 + ((.seq .str (.seq .bool (.seq .str (.seq (.int .u16) (.int .u8))))) : D).bnd ≤ 1000000 := by have := hroom.n; simp only [D.bnd] at this ⊢; omega
  have hs0 : ss.length + 2 * ((.seq .str (.seq .bool (.seq .str (.seq (.int .u16) (.int .u8))))) : D).co * RM ≤ 1000000000 := hroom.s
  have hf0 : 200000 ≤ ns.length + 1 ∨ ((.seq .str (.seq .bool (.seq .str (.seq (.int .u16) (.int .u8))))) : D).fit (ns.length + 1) := hroom.fit.imp (fun h => by omega) id
  generalize w1.setCell ⟨be, oe, none⟩ (.slice (some ⟨gg, 0, none⟩) (ns.length + 1) cap) = w2 at *
  generalize Value.slice (some ⟨gg, 0, none⟩) (ns.length + 1) cap = vn0 at *
  clear he1 hk1 hown1 hgrow hat1 hlt1 hc1 hf1 hown
  go_loopg [6] l (fun k p wr => ∃ (i : Nat) (at' : Int) (vn' vs' : Value) (ns' : List Int) (ss' : List ByteArray), p = .int .i64 i ∧ AllMRel Tryz.prog 3 9 χ w be oe base l (ns.length + 1) ss.length ((.seq .str (.seq .bool (.seq .str (.seq (.int .u16) (.int .u8)))))) k i wr at' vn' vs' ns' ss')
  · exact ⟨0, _, _, _, _, _, by simp, hr0⟩
  · clear hr0
    obtain ⟨i, at', vn', vs', ns', ss', rfl, hr⟩ := hrel
    obtain ⟨ao', cp, rfl⟩ := hr.eye.formN
    have q0 := hr.eye.c0
    cases gk with
    | zero =>
      have hil : decide (i < l) = false := by have := hr.ik; simp; omega
      go_wp2
      go_end0
      exact ⟨rfl, hr.out⟩
    | succ k =>
      have hil : decide (i < l) = true := by have := hr.ik; simp; omega
      by_cases hlt : ns'.length < 200000
      · obtain ⟨b', o', rfl, hil2, hcall⟩ := hr.round (e := (.seq .str (.seq .bool (.seq .str (.seq (.int .u16) (.int .u8)))))) rfl hrow hfar hn0 hs0 hf0 hsee hlt
        have hd : decide ((ns'.length : Int) < 200000) = true := by simp; omega
        have hcf := run_callFn hh hbody hname
        have hi40 : (i : Int) ≤ 1099511627776 := by have := hr.n; omega
        have hi0 : (0 : Int) ≤ (i : Int) := by omega
        rw [show ((.seq .str (.seq .bool (.seq .str (.seq (.int .u16) (.int .u8))))) : D).size = 5 from rfl] at hcall; try simp only [Nat.mul_one] at hcall
        go_wp2_with ((refine hcall.mono ?_; rintro e w' ⟨rfl, at2, vn2, vs2, ns2, ss2, hr2⟩))
        go_roundg k
        case measure => omega
        case rel => exact ⟨i + 1, at2, vn2, vs2, ns2, ss2, by go_num, hr2⟩
      · have hd : decide ((ns'.length : Int) < 200000) = false := by simp; omega
        go_wp2
        go_end0
        exact ⟨rfl, hr.out⟩

set_option maxRecDepth 100000 in
set_option maxHeartbeats 3200000 in
theorem mark295 : MarkOK Tryz.prog 3 9 295 .bool := by
  intro w χ be oe base bx ox at_ vn vs ns ss hinv hat hfar he hroom
  obtain ⟨z, hx⟩ := hat.bool hinv.1
  obtain ⟨hxb, hxe⟩ := hfar bx hat.1
  have hxf := hinv.frozen hat.1 hx
  have e0 := he.c0
  have e2 := he.c2
  have hlen : ns.length + 1 ≤ 1000000 := by have := hroom.n; simp only [D.bnd] at this; omega
  have le := World.block_lt_of_cell? w _ e0
  have lx := World.block_lt_of_cell? w _ hx
  obtain ⟨i3, hi, hy0, hy1, hy2⟩ := info_parts infoI
  have he2 := fun z2 => (he.other (o := ox) (v := .bool z2) hxb hxe).drew
  have hi2 := fun z2 : Bool => (hinv.setBool (z := z2) hat).drew
  have hk2 := fun z2 => (KeepsM.store (A := χ.A) (be := be) (base := base) w (b := bx) (o := ox) (v := .bool z2) (.inr hat.1)).trans (KeepsM.drew χ.A _ be base)
  have hx2 : ∀ z2, (w.setCell ⟨bx, ox, none⟩ (.bool z2)).drew.cell? ⟨bx, ox, none⟩ = some (.bool z2) := fun z2 => cell_setCell_same (w := w) hx rfl
  cases z
  · go_enter Tryz.func295, Tryz.ntmps295
    go_wp2
    go_region_law (fail)
    all_goals
      have he2 := he2 true
      have hi2 := hi2 true
      have hk2 := hk2 true
      have hx2 := hx2 true
      generalize (w.setCell ⟨bx, ox, none⟩ (.bool true)).drew = w2 at *
      clear e0 e2 hxf hx le lx
      have e0 := he2.c0
      have hfz := he2.f0
      have hown := he2.on
      have hbase := he2.base
      have le := World.block_lt_of_cell? w2 _ e0
      have lx := World.block_lt_of_cell? w2 _ hx2
      generalize hxs : ns.map (Value.int .i64) = xs at hown
      generalize hn : ns.length = n at hown hlen
      go_wp2_with
        ((at_builtin; refine wpList_append_lies _ rfl _ _ _ rfl base 3 i3 _ 1 8 Tryz.underlying96 hi hy0 hy1 hy2 rfl (by omega) vn n xs rfl (hown.alloc _)
              ⟨w2.heap.size, 0, none⟩ 1 1 [.int .i64 1] rfl rfl (World.news_of_block (cs := #[.int .i64 1]) (t := 3) (fr := (0, 0)) (heap_alloc_new w2 _)) (by simp [Value.oneCell'])
              (by omega) (by unfold maxLen; omega) (by omega) (by simp; omega) (w2.heap.size + 1) (by simp) ?_; intro gg cap w1 hown1 hgrow hat1 hlt1
          have hc1 : w1.cell? ⟨be, oe, none⟩ = some vn := (he2.grown (grown_past0 hgrow) he2.bn oe).1.trans e0
          have hf1 : w1.frozen? ⟨be, oe, none⟩ = false := (he2.grown (grown_past0 hgrow) he2.bn oe).2.trans hfz))
      go_end0
      subst hn hxs
      exact ⟨rfl, MarkEnd.num ⟨rfl, rfl, rfl⟩ hk2 hi2 hfar he2 (grown_past0 hgrow) hown1 (hat1.imp id fun e => by omega)⟩
  · go_enter Tryz.func295, Tryz.ntmps295
    go_wp2
    go_region_law (fail)
    all_goals
      have he2 := he2 false
      have hi2 := hi2 false
      have hk2 := hk2 false
      have hx2 := hx2 false
      generalize (w.setCell ⟨bx, ox, none⟩ (.bool false)).drew = w2 at *
      clear e0 e2 hxf hx le lx
      have e0 := he2.c0
      have hfz := he2.f0
      have hown := he2.on
      have hbase := he2.base
      have le := World.block_lt_of_cell? w2 _ e0
      have lx := World.block_lt_of_cell? w2 _ hx2
      generalize hxs : ns.map (Value.int .i64) = xs at hown
      generalize hn : ns.length = n at hown hlen
      go_wp2_with
        ((at_builtin; refine wpList_append_lies _ rfl _ _ _ rfl base 3 i3 _ 1 8 Tryz.underlying96 hi hy0 hy1 hy2 rfl (by omega) vn n xs rfl (hown.alloc _)
              ⟨w2.heap.size, 0, none⟩ 1 1 [.int .i64 0] rfl rfl (World.news_of_block (cs := #[.int .i64 0]) (t := 3) (fr := (0, 0)) (heap_alloc_new w2 _)) (by simp [Value.oneCell'])
              (by omega) (by unfold maxLen; omega) (by omega) (by simp; omega) (w2.heap.size + 1) (by simp) ?_; intro gg cap w1 hown1 hgrow hat1 hlt1
          have hc1 : w1.cell? ⟨be, oe, none⟩ = some vn := (he2.grown (grown_past0 hgrow) he2.bn oe).1.trans e0
          have hf1 : w1.frozen? ⟨be, oe, none⟩ = false := (he2.grown (grown_past0 hgrow) he2.bn oe).2.trans hfz))
      go_end0
      subst hn hxs
      exact ⟨rfl, MarkEnd.num ⟨rfl, rfl, rfl⟩ hk2 hi2 hfar he2 (grown_past0 hgrow) hown1 (hat1.imp id fun e => by omega)⟩

set_option maxRecDepth 100000 in
set_option maxHeartbeats 3200000 in
theorem mark136 : MarkOK Tryz.prog 3 9 136 (.int .u16) := by
  intro w χ be oe base bx ox at_ vn vs ns ss hinv hat hfar he hroom
  obtain ⟨z, hx, hz1, hz2⟩ := hat.int hinv.1
  obtain ⟨hxb, hxe⟩ := hfar bx hat.1
  have hxf := hinv.frozen hat.1 hx
  have e0 := he.c0
  have e2 := he.c2
  have e3 := he.c3
  have hfz := he.f0
  have hfz3 := he.f3
  have hown := he.on
  have hbase := he.base
  have hlen : ns.length + 1 ≤ 1000000 := by have := hroom.n; simp only [D.bnd] at this; omega
  have le := World.block_lt_of_cell? w _ e0
  have lx := World.block_lt_of_cell? w _ hx
  obtain ⟨i3, hi, hy0, hy1, hy2⟩ := info_parts infoI
  go_enter Tryz.func136, Tryz.ntmps136
  go_wp2
  generalize hyy : RowKit.wrap64 (at_ + 1) = y2
  have hwr : IntKind.u16.wrap y2 = y2 % 65536 := by first | rfl | simp [IntKind.wrap]
  try rw [hwr]
  clear hwr
  generalize hzz : y2 % 65536 = z2
  have hzr : IntKind.u16.min ≤ z2 ∧ z2 ≤ IntKind.u16.max := by
    rw [← hzz, show IntKind.u16.min = 0 by decide, show IntKind.u16.max = 65535 by decide]; omega
  have he2 := (he.setAt y2).other (o := ox) (v := .int .u16 z2) hxb hxe
  have hi2 := (hinv.far (o := oe + 3) (v := .int .i64 y2) (fun h => (hfar be h).2 rfl)).setInt hat hzr.1 hzr.2
  have hk2 := (KeepsM.store (A := χ.A) (be := be) (base := base) w (b := be) (o := oe + 3) (v := .int .i64 y2) (.inl rfl)).trans (KeepsM.store _ (b := bx) (o := ox) (v := .int .u16 z2) (.inr hat.1))
  have hx2 : ((w.setCell ⟨be, oe + 3, none⟩ (.int .i64 y2)).setCell ⟨bx, ox, none⟩ (.int .u16 z2)).cell? ⟨bx, ox, none⟩ = some (.int .u16 z2) :=
    cell_setCell_same ((World.cell?_of_block (heap_setCell_far hxe)).trans hx) rfl
  generalize (w.setCell ⟨be, oe + 3, none⟩ (.int .i64 y2)).setCell ⟨bx, ox, none⟩ (.int .u16 z2) = w2 at *
  clear e0 e2 e3 hfz hfz3 hown hbase le lx hxf hx hz1 hz2 hzz hyy
  have e0 := he2.c0
  have hfz := he2.f0
  have hown := he2.on
  have hbase := he2.base
  have le := World.block_lt_of_cell? w2 _ e0
  have lx := World.block_lt_of_cell? w2 _ hx2
  generalize hxs : ns.map (Value.int .i64) = xs at hown
  generalize hn : ns.length = n at hown hlen
  go_region_law
    ((refine step_append_lies _ (by rfl) _ _ _ (by rfl) base 3 i3 _ 1 8 Tryz.underlying96 hi hy0 hy1 hy2 rfl (by omega) vn n xs (by rfl) ((hown.alloc _).drew)
        ⟨w2.heap.size, 0, none⟩ 1 1 [.int .i64 (IntKind.i64.wrap z2)] (by rfl) (by rfl) (World.news_of_block (cs := #[.int .i64 (IntKind.i64.wrap z2)]) (t := 3) (fr := (0, 0)) (heap_alloc_new w2 _)) (by simp [Value.oneCell'])
        (by omega) (by unfold maxLen; omega) (by omega) (by simp; omega) (w2.heap.size + 1) (by simp) ?_; intro gg cap w1 hown1 hgrow hat1 hlt1
      have hc1 : w1.cell? ⟨be, oe, none⟩ = some vn := (he2.grown (grown_past hgrow) he2.bn oe).1.trans e0
      have hf1 : w1.frozen? ⟨be, oe, none⟩ = false := (he2.grown (grown_past hgrow) he2.bn oe).2.trans hfz))
  all_goals go_end0
  all_goals
    subst hn hxs
    exact ⟨rfl, MarkEnd.num ⟨rfl, rfl, rfl⟩ hk2 hi2 hfar he2 (grown_past hgrow) hown1 (hat1.imp id fun e => by omega)⟩

set_option maxRecDepth 100000 in
set_option maxHeartbeats 3200000 in
theorem allm217 (h : Nat) (hfn : Func) (hh : Tryz.prog.funcs[h]? = some hfn) (hbody : hfn.body.isSome = true) (hname : (hfn.name == "runtime.NumGoroutine") = false) (hsee : MarkOK Tryz.prog 3 9 h .str) : AllSMOK Tryz.prog 3 9 217 h 9 := by
  intro w χ be oe base ao l c at_ vn vs ns ss hinv hrow hlb hfar he hroom
  have e0 := he.c0
  have hfz := he.f0
  have hown := he.on
  have hbase := he.base
  have hlen : ns.length + 1 ≤ 1000000 := by have := hroom.n; simp only [D.bnd] at this; omega
  have le := World.block_lt_of_cell? w _ e0
  obtain ⟨i3, hi, hy0, hy1, hy2⟩ := info_parts infoI
  generalize hxs : ns.map (Value.int .i64) = xs at hown
  generalize hn : ns.length = n at hown hlen
  go_enter Tryz.func217, Tryz.ntmps217
  go_wp2_with
    ((at_builtin; refine wpList_append_lies _ rfl _ _ _ rfl base 3 i3 _ 1 8 Tryz.underlying96 hi hy0 hy1 hy2 rfl (by omega) vn n xs rfl (hown.alloc _)
        ⟨w.heap.size, 0, none⟩ 1 1 [.int .i64 l] rfl rfl (World.news_of_block (cs := #[.int .i64 l]) (t := 3) (fr := (0, 0)) (heap_alloc_new w _)) (by simp [Value.oneCell'])
        (by omega) (by unfold maxLen; omega) (by omega) (by simp; omega) (w.heap.size + 1) (by simp) ?_; intro gg cap w1 hown1 hgrow hat1 hlt1
      have hc1 : w1.cell? ⟨be, oe, none⟩ = some vn := (he.grown (grown_past0 hgrow) he.bn oe).1.trans e0
      have hf1 : w1.frozen? ⟨be, oe, none⟩ = false := (he.grown (grown_past0 hgrow) he.bn oe).2.trans hfz))
  subst hn hxs
  obtain ⟨he1, hk1⟩ := he.addN (grown_past0 hgrow) hown1 (hat1.imp id fun e => by omega)
  have hr0 : AllSMRel Tryz.prog 3 9 χ w be oe base l (ns.length + 1) ss.length l 0 (w1.setCell ⟨be, oe, none⟩ (.slice (some ⟨gg, 0, none⟩) (ns.length + 1) cap)) at_ _ vs (ns ++ [(l : Int)]) ss :=
    ⟨by omega, hk1.m _, hinv.same (hk1.same hfar), he1, by simp, by simp; omega, by simp⟩
  have hs0 : ss.length + 100 * RM ≤ 1000000000 := hroom.s
  generalize w1.setCell ⟨be, oe, none⟩ (.slice (some ⟨gg, 0, none⟩) (ns.length + 1) cap) = w2 at *
  generalize Value.slice (some ⟨gg, 0, none⟩) (ns.length + 1) cap = vn0 at *
  clear he1 hk1 hown1 hgrow hat1 hlt1 hc1 hf1 hown
  go_loopg [6] l (fun k p wr => ∃ (i : Nat) (at' : Int) (vn' vs' : Value) (ns' : List Int) (ss' : List ByteArray), p = .int .i64 i ∧ AllSMRel Tryz.prog 3 9 χ w be oe base l (ns.length + 1) ss.length k i wr at' vn' vs' ns' ss')
  · exact ⟨0, _, _, _, _, _, by simp, hr0⟩
  · clear hr0
    obtain ⟨i, at', vn', vs', ns', ss', rfl, hr⟩ := hrel
    obtain ⟨ao', cp, rfl⟩ := hr.eye.formN
    have q0 := hr.eye.c0
    cases gk with
    | zero =>
      have hil : decide (i < l) = false := by have := hr.ik; simp; omega
      go_wp2
      go_end0
      exact ⟨rfl, hr.out hlb⟩
    | succ k =>
      have hil : decide (i < l) = true := by have := hr.ik; simp; omega
      by_cases hlt : ns'.length < 200000
      · obtain ⟨b', o', rfl, hil2, hcall⟩ := hr.round hlb hrow hfar hlen hs0 hsee hlt
        have hd : decide ((ns'.length : Int) < 200000) = true := by simp; omega
        have hcf := run_callFn hh hbody hname
        have hi40 : (i : Int) ≤ 1099511627776 := by have := hr.ik; omega
        have hi0 : (0 : Int) ≤ (i : Int) := by omega
        go_wp2_with ((refine hcall.mono ?_; rintro e w' ⟨rfl, at2, vn2, vs2, ns2, ss2, hr2⟩))
        go_roundg k
        case measure => omega
        case rel => exact ⟨i + 1, at2, vn2, vs2, ns2, ss2, by go_num, hr2⟩
      · have hd : decide ((ns'.length : Int) < 200000) = false := by simp; omega
        go_wp2
        go_end0
        exact ⟨rfl, hr.out hlb⟩

end Go.Sx
