/- Part R of a proof: helper lemmas; no conditions. -/
import Derived.Test.YtnnaehcmchndmaaGreatDoorK
import Derived.Test.YtnnaehcmchndmaaGreatDoorProg
import Derived.WalkKit
import Derived.Shelf.Strings.SlTrimAscii
import Derived.KernelRfl
import Derived.Below
import Derived.MapKept
import Derived.Maps.Keyed
import Derived.Deep.LoopGhost
import Derived.WalkSpells
import Derived.StillTactics
import Derived.OwnWalk
import Derived.Laws.Pointers
import Derived.Deep.RegionLaw
import Derived.Deep.AppendLies
import Derived.Handy
import Derived.Deep.RegionHeld3

set_option linter.unusedSimpArgs false
set_option linter.unusedVariables false

namespace Go.Sx
open Go Go.Proofs Go.Shelf Go.RowKit

def lays160_ren : Go.Shelf.Ren := ⟨fun | 160 => 235 | 232 => 304 | 231 => 303 | 227 => 305 | 234 => 307 | 233 => 306 | 236 => 309 | 235 => 308 | 228 => 343 | 271 => 345 | 151 => 344 | 197 => 340 | 120 => 390 | 152 => 389 | 260 => 385 | 137 => 238 | 119 => 409 | 224 => 387 | 225 => 386 | 217 => 312 | 266 => 351 | n => n, fun | 9 => 9 | 4 => 4 | 3 => 3 | 5 => 5 | 117 => 431 | 116 => 430 | 0 => 0 | 124 => 434 | 21 => 21 | 105 => 468 | 46 => 187 | 119 => 519 | 139 => 522 | 138 => 521 | n => n, fun | 3 => 6 | 4 => 7 | n => n⟩

theorem lays160 : Go.Proofs.Lays.n160 Tryz.prog lays160_ren := {
  mixed := by kernel_rfl
  f119 := Tryz.func409.trans (congrArg some (by kernel_rfl))
  f120 := Tryz.func390.trans (congrArg some (by kernel_rfl))
  f137 := Tryz.func238.trans (congrArg some (by kernel_rfl))
  f151 := Tryz.func344.trans (congrArg some (by kernel_rfl))
  f152 := Tryz.func389.trans (congrArg some (by kernel_rfl))
  f160 := Tryz.func235.trans (congrArg some (by kernel_rfl))
  f197 := Tryz.func340.trans (congrArg some (by kernel_rfl))
  f217 := Tryz.func312.trans (congrArg some (by kernel_rfl))
  f224 := Tryz.func387.trans (congrArg some (by kernel_rfl))
  f225 := Tryz.func386.trans (congrArg some (by kernel_rfl))
  f227 := Tryz.func305.trans (congrArg some (by kernel_rfl))
  f228 := Tryz.func343.trans (congrArg some (by kernel_rfl))
  f231 := Tryz.func303.trans (congrArg some (by kernel_rfl))
  f232 := Tryz.func304.trans (congrArg some (by kernel_rfl))
  f233 := Tryz.func306.trans (congrArg some (by kernel_rfl))
  f234 := Tryz.func307.trans (congrArg some (by kernel_rfl))
  f235 := Tryz.func308.trans (congrArg some (by kernel_rfl))
  f236 := Tryz.func309.trans (congrArg some (by kernel_rfl))
  f260 := Tryz.func385.trans (congrArg some (by kernel_rfl))
  f266 := Tryz.func351.trans (congrArg some (by kernel_rfl))
  f271 := Tryz.func345.trans (congrArg some (by kernel_rfl))
  t0 := Tryz.underlying0
  a0 := Tryz.isAgg0
  z0 := Tryz.sizeOf0
  v0 := Tryz.zeroValue0
  t3 := Tryz.underlying3
  a3 := Tryz.isAgg3
  z3 := Tryz.sizeOf3
  v3 := Tryz.zeroValue3
  t4 := Tryz.underlying4
  a4 := Tryz.isAgg4
  z4 := Tryz.sizeOf4
  v4 := Tryz.zeroValue4
  t5 := Tryz.underlying5
  a5 := Tryz.isAgg5
  z5 := Tryz.sizeOf5
  v5 := Tryz.zeroValue5
  t9 := Tryz.underlying9
  a9 := Tryz.isAgg9
  z9 := Tryz.sizeOf9
  v9 := Tryz.zeroValue9
  t21 := Tryz.underlying21
  a21 := Tryz.isAgg21
  z21 := Tryz.sizeOf21
  v21 := Tryz.zeroValue21
  t46 := Tryz.underlying187
  a46 := Tryz.isAgg187
  z46 := Tryz.sizeOf187
  v46 := Tryz.zeroValue187
  t105 := Tryz.underlying468
  a105 := Tryz.isAgg468
  z105 := Tryz.sizeOf468
  v105 := Tryz.zeroValue468
  t116 := Tryz.underlying430
  a116 := Tryz.isAgg430
  z116 := Tryz.sizeOf430
  t117 := Tryz.underlying431
  a117 := Tryz.isAgg431
  z117 := Tryz.sizeOf431
  v117 := Tryz.zeroValue431
  t119 := Tryz.underlying519
  a119 := Tryz.isAgg519
  z119 := Tryz.sizeOf519
  t124 := Tryz.underlying434
  a124 := Tryz.isAgg434
  z124 := Tryz.sizeOf434
  v124 := Tryz.zeroValue434
  t138 := Tryz.underlying521
  a138 := Tryz.isAgg521
  z138 := Tryz.sizeOf521
  v138 := Tryz.zeroValue521
  t139 := Tryz.underlying522
  a139 := Tryz.isAgg522
  z139 := Tryz.sizeOf522
  v139 := Tryz.zeroValue522
  g3 := by kernel_rfl
  g4 := by kernel_rfl }

theorem grown_of_below {w w' : World} (h : Below w.heap.size w w') : w.grownBy w' none := ⟨h.os, h.tape, h.output, h.size, fun k hk _ => h.block k hk⟩

theorem ri235 (w : World) (c : UInt8) (hc : c = 49 ∨ c = 50) : Calls Tryz.prog 235 #[.string ⟨#[c]⟩, .string ⟨#[48, 49, 50, 51, 52, 53, 54, 55, 56, 57]⟩] w fun e w' => e = .returned (.string ⟨#[]⟩) ∧ w.grownBy w' none := by
  have hcon := Any.strings_Trim_laid lays160 (by kernel_rfl) ⟨#[c]⟩ ⟨#[48, 49, 50, 51, 52, 53, 54, 55, 56, 57]⟩ w (by simp [ByteArray.size]) (by decide) (ascii_of_all (by decide))
  change Calls Tryz.prog 235 _ _ _ at hcon
  refine hcon.mono ?_
  rintro e w' ⟨rfl, hB⟩
  refine ⟨?_, grown_of_below hB⟩
  rcases hc with rfl | rfl <;> rfl

end Go.Sx

namespace Go.Sx
open Go Go.Proofs Go.RowKit

theorem und362 : Tryz.prog.underlying 362 = some (.map 3 368) := by kernel_rfl
theorem und3 : Tryz.prog.underlying 3 = some (.int .i64) := by kernel_rfl
theorem int3 : Maps.Keyed Tryz.prog 3 := Maps.int_keyed und3

theorem mk362 (w : World) : (Instr.makeMap 362 none).run Tryz.prog w = .ok (.map (some w.heap.size)) (w.alloc (.map #[] 0)) := by
  simp [Instr.makeMap]

theorem put362 (w : World) (m : Nat) (v : Value) (h : w.heap[m]? = some (.map #[] 0)) :
    (Instr.mapUpdate 362 (.map (some m)) (.int .i64 1) v).run Tryz.prog w = .ok () (setBlk w m (.map #[{ key := .int .i64 1, val := v, born := 0 }] 1)) := by
  have hf := MapKept.run_findKey (w := w) (kt := 3) (k := .int .i64 1) (l := []) und3 rfl
  have hc := int3.check w false (v := .int .i64 1) (l := .int .i64 1) (by kernel_rfl)
  simp [Instr.mapUpdate, run_underlying und362, MapKept.run_getObj_map h, hc, hf, MapKept.run_setObj_map _ h, Result.andThen, setBlk]

theorem get362 (w : World) (m : Nat) (v : Value) (h : w.heap[m]? = some (.map #[{ key := .int .i64 1, val := v, born := 0 }] 1)) :
    (Instr.lookup 362 (.map (some m)) (.int .i64 1) false).run Tryz.prog w = .ok v w := by
  have hf := MapKept.run_findKey (w := w) (kt := 3) (k := .int .i64 1) (l := [{ key := .int .i64 1, val := v, born := 0 }]) und3 rfl
  have hc := int3.check w false (v := .int .i64 1) (l := .int .i64 1) (by kernel_rfl)
  simp [Instr.lookup, run_underlying und362, MapKept.run_getObj_map h, hc, hf, Result.andThen]

set_option maxRecDepth 100000 in
set_option maxHeartbeats 1600000 in
theorem ri210 (w : World) (c : UInt8) (hc : c = 49 ∨ c = 50) : Calls Tryz.prog 210 #[.string ⟨#[c]⟩] w fun e w' => e = .returned (.bool true) ∧ w.grownBy w' none := by
  have h := ri235 w c hc
  have hx : (⟨#[c]⟩ : ByteArray).size = 1 := rfl
  go_enter Tryz.func210, Tryz.ntmps210
  go_wp2_with ((refine h.mono ?_; clear h; rintro e w1 ⟨rfl, hg⟩))
  go_ret
  exact ⟨rfl, hg⟩

set_option maxRecDepth 100000 in
set_option maxHeartbeats 1600000 in
theorem ri250 (w : World) (c : UInt8) (hc : c = 49 ∨ c = 50) : Calls Tryz.prog 250 #[.string ⟨#[c]⟩] w fun e w' => e = .returned (.bool true) ∧ w.grownBy w' none := by
  have h := ri210 w c hc
  have hx : (⟨#[c]⟩ : ByteArray).size = 1 := rfl
  go_enter Tryz.func250, Tryz.ntmps250
  go_wp2_with ((refine h.mono ?_; clear h; rintro e w1 ⟨rfl, hg⟩))
  go_ret
  exact ⟨rfl, hg⟩

set_option maxRecDepth 100000 in
set_option maxHeartbeats 1600000 in
theorem ri319 (w : World) : Calls Tryz.prog 319 #[.agg #[.int .u8 0, .int .u8 0, .int .i64 0]] w fun e w' => e = .returned (.bool true) ∧ w.grownBy w' none := by
  go_enter Tryz.func319, Tryz.ntmps319
  go_wp2
  go_ret
  exact ⟨rfl, grown_alloc w _⟩

set_option maxRecDepth 100000 in
set_option maxHeartbeats 1600000 in
theorem ri395 (w : World) (b : Nat) (h : w.cell? ⟨b, 0, none⟩ = some (.int .i64 1)) : Calls Tryz.prog 395 #[.agg #[.int .u8 0, .int .u8 0, .int .i64 0], .pointer (some ⟨b, 0, none⟩)] w fun e w' => e = .returned (.bool false) ∧ w.grownBy w' none := by
  go_enter Tryz.func395, Tryz.ntmps395
  go_wp2
  go_ret
  exact ⟨rfl, grown_alloc w _⟩

structure GrpAt (w : World) (g c : Nat) : Prop where
  c0 : w.cell? ⟨g, 0, none⟩ = some (.int .u16 2)
  c1 : w.cell? ⟨g, 1, none⟩ = some (.int .u16 1)
  c2 : w.cell? ⟨g, 2, none⟩ = some (.slice (some ⟨c, 0, none⟩) 1 1)

set_option maxRecDepth 100000 in
set_option maxHeartbeats 1600000 in
theorem ri253 (w : World) (g c : Nat) (h : GrpAt w g c) : Calls Tryz.prog 253 #[.pointer (some ⟨g, 0, none⟩)] w fun e w' => e = .returned (.int .i64 1) ∧ w' = w := by
  obtain ⟨h0, h1, h2⟩ := h
  go_enter Tryz.func253, Tryz.ntmps253
  go_wp2
  go_ret
  exact ⟨rfl, rfl⟩

set_option maxRecDepth 100000 in
set_option maxHeartbeats 1600000 in
theorem ri354 (w : World) (g c : Nat) (h : GrpAt w g c) : Calls Tryz.prog 354 #[.pointer (some ⟨g, 0, none⟩), .int .i64 0] w fun e w' => e = .returned (.bool true) ∧ w' = w := by
  have hs := ri253 w g c h
  go_enter Tryz.func354, Tryz.ntmps354
  go_wp2_with ((refine hs.mono ?_; clear hs; rintro e w1 ⟨rfl, rfl⟩))
  go_ret
  exact ⟨rfl, rfl⟩

end Go.Sx

namespace Go.Sx
open Go Go.Proofs Go.RowKit

structure CirAt (w : World) (c : Nat) : Prop where
  c0 : w.cell? ⟨c, 0, none⟩ = some (.int .u8 0)
  c1 : w.cell? ⟨c, 1, none⟩ = some (.int .u8 0)
  c2 : w.cell? ⟨c, 2, none⟩ = some (.int .i64 0)

set_option maxRecDepth 100000 in
set_option maxHeartbeats 1600000 in
theorem ri394 (w : World) (c b : Nat) (h : CirAt w c) (hb : w.cell? ⟨b, 0, none⟩ = some (.int .i64 1)) : Calls Tryz.prog 394 #[.slice (some ⟨c, 0, none⟩) 1 1, .func (.func 395) #[] #[.pointer (some ⟨b, 0, none⟩)]] w fun e w' => e = .returned (.int .i64 (-1)) ∧ w.grownBy w' none := by
  obtain ⟨h0, h1, h2⟩ := h
  have hs := ri395 w b hb
  go_enter Tryz.func394, Tryz.ntmps394
  go_wp2
  refine wp_loop_rounds 3 ?_
  rw [rounds_succ]
  go_wp2_with ((refine hs.mono ?_; clear hs; rintro e w1 ⟨rfl, hg⟩))
  rw [rounds_succ]
  go_wp2
  go_ret
  exact ⟨rfl, hg⟩

set_option maxRecDepth 100000 in
set_option maxHeartbeats 1600000 in
theorem ri353 (w : World) (g c : Nat) (hg : g < w.heap.size) (hc : c < w.heap.size) (h : GrpAt w g c) (k : CirAt w c) : Calls Tryz.prog 353 #[.pointer (some ⟨g, 0, none⟩), .int .i64 1] w fun e w' => e = .returned (.int .i64 (-1)) ∧ w.grownBy w' none := by
  obtain ⟨h0, h1, h2⟩ := h
  obtain ⟨k0, k1, k2⟩ := k
  go_enter Tryz.func353, Tryz.ntmps353
  have hh := ri394 (w.alloc (Obj.cells #[Value.int IntKind.i64 1] 3)) c w.heap.size ⟨by go_simp, by go_simp, by go_simp⟩ (by go_simp)
  go_wp2_with (go_at_call 394; refine hh.mono ?_; clear hh; rintro e w1 ⟨rfl, hg⟩)
  go_ret
  exact ⟨rfl, grown_trans (grown_alloc w _) hg⟩

set_option maxRecDepth 100000 in
set_option maxHeartbeats 1600000 in
theorem ri318 (w : World) (g c : Nat) (hg : g < w.heap.size) (hc : c < w.heap.size) (h : GrpAt w g c) (k : CirAt w c) : Calls Tryz.prog 318 #[.pointer (some ⟨g, 0, none⟩), .int .i64 1] w fun e w' => e = .returned (.int .i64 0) ∧ w.grownBy w' none := by
  have h1 := ri253 w g c h
  have h2 := ri353 w g c hg hc h k
  go_enter Tryz.func318, Tryz.ntmps318
  go_wp2_with (first
    | (go_at_call 253; refine h1.mono ?_; clear h1; rintro e w1 ⟨rfl, rfl⟩)
    | (go_at_call 353; refine h2.mono ?_; clear h2; rintro e w2 ⟨rfl, hg2⟩))
  go_ret
  exact ⟨rfl, hg2⟩

end Go.Sx

namespace Go.Sx
open Go Go.Proofs Go.RowKit

set_option maxRecDepth 100000 in
set_option maxHeartbeats 1600000 in
theorem ri320 (w : World) (g c : Nat) (h : GrpAt w g c) : Calls Tryz.prog 320 #[.pointer (some ⟨g, 0, none⟩), .int .i64 0] w fun e w' => e = .returned (.bool true) ∧ w.grownBy w' none := by
  obtain ⟨h0, h1, h2⟩ := h
  have hs := ri354 w.drew g c ⟨h0, h1, h2⟩
  have k0 : w.drew.cell? { block := g, off := 0 } = some (Value.int IntKind.u16 2) := h0
  have k1 : w.drew.cell? { block := g, off := 1 } = some (Value.int IntKind.u16 1) := h1
  go_enter Tryz.func320, Tryz.ntmps320
  go_wp2
  go_region_held3 (fun w' => w'.cell? ⟨g, 0, none⟩ = some (Value.int IntKind.u16 2) ∧ w'.cell? ⟨g, 1, none⟩ = some (Value.int IntKind.u16 1)) (go_keep) (first | (go_at_call 354; refine hs.mono ?_; clear hs; rintro e w1 ⟨rfl, rfl⟩))
  go_wp2
  go_ret
  exact ⟨rfl, grown_drew (grown_refl w)⟩

end Go.Sx

namespace Go.Sx
open Go Go.Proofs Go.RowKit

theorem GrpAt.grown {w w' : World} {g c : Nat} (h : GrpAt w g c) (hg : w.grownBy w' none) (hlt : g < w.heap.size) : GrpAt w' g c := by
  have e : ∀ o, w'.cell? ⟨g, o, none⟩ = w.cell? ⟨g, o, none⟩ := fun o => by simp only [World.cell?]; rw [hg.block g hlt (by simp)]
  exact ⟨by rw [e]; exact h.c0, by rw [e]; exact h.c1, by rw [e]; exact h.c2⟩

theorem blk_grown {w w' : World} {c : Nat} {o : Obj} (h : w.heap[c]? = some o) (hg : w.grownBy w' none) : w'.heap[c]? = some o := by
  rw [hg.block c (lt_of_blk h) (by simp)]; exact h

theorem CirAt.of {w : World} {c : Nat} (h : w.heap[c]? = some (.cells #[.int .u8 0, .int .u8 0, .int .i64 0] 378 (0, 0))) : CirAt w c :=
  ⟨by rw [cell?_blk h]; rfl, by rw [cell?_blk h]; rfl, by rw [cell?_blk h]; rfl⟩

theorem hunt_stores {w : World} {c : Nat} (hb : w.heap[c]? = some (.cells #[.int .u8 0, .int .u8 0, .int .i64 0] 378 (0, 0))) :
    w.cell? ⟨c, 0, none⟩ = some (.int .u8 0) ∧ w.frozen? ⟨c, 0, none⟩ = false ∧ (w.setCell ⟨c, 0, none⟩ (.int .u8 1)).cell? ⟨c, 2, none⟩ = some (.int .i64 0) ∧
    (w.setCell ⟨c, 0, none⟩ (.int .u8 1)).frozen? ⟨c, 2, none⟩ = false ∧ w.grownBy (w.setCell ⟨c, 0, none⟩ (.int .u8 1)) (some c) ∧
    w.grownBy ((w.setCell ⟨c, 0, none⟩ (.int .u8 1)).setCell ⟨c, 2, none⟩ (.int .i64 1)) (some c) ∧
    ((w.setCell ⟨c, 0, none⟩ (.int .u8 1)).setCell ⟨c, 2, none⟩ (.int .i64 1)).heap[c]? = some (.cells #[.int .u8 1, .int .u8 0, .int .i64 1] 378 (0, 0)) := by
  have hlt := lt_of_blk hb
  have hg : ∀ o : Obj, w.grownBy (setBlk w c o) (some c) := fun o => ⟨rfl, rfl, rfl, by rw [setBlk_size]; exact Nat.le_refl _, fun k hk hn => by rw [setBlk_get hlt, if_neg (fun e => hn (by rw [e]))]⟩
  have e1 := setCell_blk (o := 0) hb (.int .u8 1)
  have hb1 : (w.setCell ⟨c, 0, none⟩ (.int .u8 1)).heap[c]? = some (.cells #[.int .u8 1, .int .u8 0, .int .i64 0] 378 (0, 0)) := by rw [e1, setBlk_get hlt, if_pos rfl]; rfl
  have e2 := setCell_blk (o := 2) hb1 (.int .i64 1)
  refine ⟨by rw [cell?_blk hb]; rfl, by rw [frozen?_blk hb]; simp, by rw [cell?_blk hb1]; rfl, by rw [frozen?_blk hb1]; simp, by rw [e1]; exact hg _, by rw [e2, e1, setBlk_setBlk]; exact hg _, ?_⟩
  rw [e2, e1, setBlk_setBlk, setBlk_get hlt, if_pos rfl]
  rfl

set_option maxRecDepth 100000 in
set_option maxHeartbeats 1600000 in
theorem ri251 (w : World) (g c : Nat) (hgc : g ≠ c) (hg : g < w.heap.size) (h : GrpAt w g c) (hc : w.heap[c]? = some (.cells #[.int .u8 0, .int .u8 0, .int .i64 0] 378 (0, 0))) : Calls Tryz.prog 251 #[.pointer (some ⟨g, 0, none⟩), .int .i64 1] w fun e w' => e = .returned (.tuple #[.int .i64 0, .int .i64 0]) ∧ w.grownBy w' (some c) ∧ w'.heap[c]? = some (.cells #[.int .u8 1, .int .u8 0, .int .i64 1] 378 (0, 0)) := by
  have h1 := ri318 w g c hg (lt_of_blk hc) h (CirAt.of hc)
  go_enter Tryz.func251, Tryz.ntmps251
  go_wp2_with (go_at_call 318; refine h1.mono ?_; clear h1; rintro e w1 ⟨rfl, hg1⟩; obtain ⟨a0, a1, a2⟩ := h.grown hg1 hg; obtain ⟨b0, b1, b2⟩ := CirAt.of (blk_grown hc hg1))
  refine wp_loop_rounds 3 ?_
  rw [rounds_succ]
  go_wp2_with (first
    | (go_at_call 319; refine (ri319 _).mono ?_; rintro e w2 ⟨rfl, hg2⟩; have hw2 := grown_trans (grown_trans hg1 (grown_alloc w1 _)) hg2; clear a0 a1 a2 b0 b1 b2)
    | (go_at_call 320; refine (ri320 _ g c (h.grown hw2 hg)).mono ?_; rintro e w3 ⟨rfl, hg3⟩; have hw3 := grown_trans hw2 hg3))
  obtain ⟨a0, a1, a2⟩ := h.grown hw3 hg
  have hb := blk_grown hc hw3
  obtain ⟨d0, e0, d2, e2, hE1, hE2, hE3⟩ := hunt_stores hb
  have d3 : w3.cell? { block := c, off := 2 } = some (Value.int IntKind.i64 0) := cell?_blk hb 2
  have e3 : w3.frozen? { block := c, off := 2 } = false := by rw [frozen?_blk hb]; simp
  clear hb a0 a1 hw2 hg2 hg3 h hg1 hE1 d2 e2
  go_region
  go_wp2
  go_ret2
  refine ⟨rfl, ⟨hE2.os.trans hw3.os, hE2.tape.trans hw3.tape, hE2.output.trans hw3.output, Nat.le_trans hw3.size hE2.size, fun k hk hn => (hE2.block k (Nat.lt_of_lt_of_le hk hw3.size) hn).trans (hw3.block k hk (by simp))⟩, hE3⟩

end Go.Sx

namespace Go.Sx
open Go Go.Proofs

theorem info378 : (Tryz.prog.info? 378).map (fun i => (i.zero, i.size, i.bytes)) = some (some (.agg #[.int .u8 0, .int .u8 0, .int .i64 0]), 3, 16) := by kernel_rfl

theorem make379 (w : World) : (Instr.makeSlice 379 (.int .i64 1) (.int .i64 1)).run Tryz.prog w = .ok (.slice (some ⟨w.heap.size, 0, none⟩) 1 1) (w.alloc (.cells #[.int .u8 0, .int .u8 0, .int .i64 0] 378)) := by
  obtain ⟨i378, hi, hy0, hy1, hy2⟩ := info_parts info378
  have := run_makeSlice (P := Tryz.prog) w 379 378 i378 (.agg #[.int .u8 0, .int .u8 0, .int .i64 0]) Tryz.underlying379 hi hy0 .i64 .i64 1 1 (by omega) (by omega) (by rw [hy1]; omega) (by rw [hy2]; omega) (by omega)
  rw [hy1] at this
  have e : madeCells (Value.agg #[.int .u8 0, .int .u8 0, .int .i64 0]).cells (Int.toNat 1 * 3) = #[.int .u8 0, .int .u8 0, .int .i64 0] := by
    apply Array.ext_getElem?
    intro i
    simp only [madeCells, Array.getElem?_map]
    match i with
    | 0 => rfl
    | 1 => rfl
    | 2 => rfl
    | i + 3 => rw [Array.getElem?_range, if_neg (by simp)]; rfl
  rw [e] at this
  exact this

set_option maxRecDepth 100000 in
set_option maxHeartbeats 1600000 in
theorem ri248 (w : World) : Calls Tryz.prog 248 #[.int .u16 2, .int .u16 1, .int .i64 1] w fun e w' => e = .returned (.tuple #[.pointer (some ⟨w.heap.size + 1, 0, none⟩), .int .i64 0]) ∧ w' = (w.alloc (.cells #[.int .u8 0, .int .u8 0, .int .i64 0] 378)).alloc (.cells #[.int .u16 2, .int .u16 1, .slice (some ⟨w.heap.size, 0, none⟩) 1 1] 381) := by
  have hm := make379
  go_enter Tryz.func248, Tryz.ntmps248
  go_wp2
  go_ret2
  exact ⟨rfl, rfl⟩

end Go.Sx

namespace Go.Sx
open Go Go.Proofs Go.RowKit

theorem alloc2_get (w : World) (o o' : Obj) : ((w.alloc o).alloc o').drew.heap[w.heap.size + 1]? = some o' := by
  show ((w.heap.push o).push o')[w.heap.size + 1]? = _
  have : w.heap.size + 1 = (w.heap.push o).size := by simp
  rw [this, Array.getElem?_push_size]

theorem info374 : (Tryz.prog.info? 374).map (fun i => (i.zero, i.size, i.bytes)) = some (some (.agg #[.int .u8 0, .int .i64 0, .string ⟨#[]⟩, .string ⟨#[]⟩, .int .u8 0]), 5, 56) := by kernel_rfl

def sideC (g m : Nat) (x : Int) (q : Value) : Array Value := #[.int .i64 9, .int .i64 9, .int .i64 9, .pointer (some ⟨g, 0, none⟩), .int .u16 2, .map (some m), .int .i64 x, q, .slice none 0 0]

set_option maxRecDepth 100000 in
set_option maxHeartbeats 1600000 in
theorem ri249 (w : World) (s g : Nat) (h : w.cell? ⟨s, 3, none⟩ = some (.pointer (some ⟨g, 0, none⟩))) : Calls Tryz.prog 249 #[.pointer (some ⟨s, 0, none⟩)] w fun e w' => e = .returned (.bool false) ∧ w' = w := by
  go_enter Tryz.func249, Tryz.ntmps249
  go_wp2
  go_ret
  exact ⟨rfl, rfl⟩

set_option maxRecDepth 100000 in
set_option maxHeartbeats 1600000 in
theorem ri161 (w : World) (s g m b : Nat) (h : w.cell? ⟨s, 3, none⟩ = some (.pointer (some ⟨g, 0, none⟩))) (h5 : w.cell? ⟨s, 5, none⟩ = some (.map (some m)))
    (hm : w.heap[m]? = some (.map #[{ key := .int .i64 1, val := .pointer (some ⟨b, 0, none⟩), born := 0 }] 1)) (hb : w.cell? ⟨b, 0, none⟩ = some (.int .u8 1)) :
    Calls Tryz.prog 161 #[.pointer (some ⟨s, 0, none⟩), .int .i64 1] w fun e w' => e = .returned (.int .u8 1) ∧ w' = w := by
  have h1 := ri249 w s g h
  have h2 := get362 w m _ hm
  clear hm
  go_enter Tryz.func161, Tryz.ntmps161
  go_wp2_with (go_at_call 249; refine h1.mono ?_; clear h1; rintro e w1 ⟨rfl, rfl⟩)
  go_ret
  exact ⟨rfl, rfl⟩

set_option maxRecDepth 100000 in
set_option maxHeartbeats 1600000 in
theorem ri162 (w : World) (s g : Nat) (h : w.cell? ⟨s, 3, none⟩ = some (.pointer (some ⟨g, 0, none⟩))) : Calls Tryz.prog 162 #[.pointer (some ⟨s, 0, none⟩)] w fun e w' => e = .returned (.pointer (some ⟨g, 0, none⟩)) ∧ w' = w := by
  have h1 := ri249 w s g h
  go_enter Tryz.func162, Tryz.ntmps162
  go_wp2_with (go_at_call 249; refine h1.mono ?_; clear h1; rintro e w1 ⟨rfl, rfl⟩)
  go_ret
  exact ⟨rfl, rfl⟩

theorem send_facts {w w1 : World} {o o' : Obj} {s g m gg cap : Nat} (hs : w.heap[s]? = some (.cells (sideC g m 1 (.slice none 0 0)) 366 (0, 0))) (hgrow : ((w.alloc o).alloc o').drew.grownBy w1 none) :
    w1.cell? ⟨s, 7, none⟩ = some (.slice none 0 0) ∧ w1.frozen? ⟨s, 7, none⟩ = false ∧ w.grownBy (w1.setCell { block := s, off := 7 } (Value.slice (some { block := gg, off := 0 }) 1 cap)) (some s) ∧ ∃ q, (w1.setCell { block := s, off := 7 } (Value.slice (some { block := gg, off := 0 }) 1 cap)).heap[s]? = some (.cells (sideC g m 1 q) 366 (0, 0)) := by
  have hgw : w.grownBy w1 none := grown_trans (grown_trans (grown_alloc w o) (grown_alloc _ o')) ⟨hgrow.os, hgrow.tape, hgrow.output, hgrow.size, hgrow.block⟩
  have hs1 := blk_grown hs hgw
  have hlt := lt_of_blk hs1
  refine ⟨cell?_blk hs1 7, by rw [frozen?_blk hs1]; simp, ?_⟩
  rw [setCell_blk hs1]
  refine ⟨⟨hgw.os, hgw.tape, hgw.output, by rw [setBlk_size]; exact hgw.size, fun k hk hn => ?_⟩, Value.slice (some { block := gg, off := 0 }) 1 cap, ?_⟩
  · rw [setBlk_get hlt, if_neg (fun e => hn (by rw [e]))]; exact hgw.block k hk (by simp)
  · rw [setBlk_get hlt, if_pos rfl]; rfl

set_option maxRecDepth 100000 in
set_option maxHeartbeats 1600000 in
theorem ri252 (w : World) (s g m : Nat) (hs : w.heap[s]? = some (.cells (sideC g m 1 (.slice none 0 0)) 366 (0, 0))) :
    Calls Tryz.prog 252 #[.pointer (some ⟨s, 0, none⟩), .agg #[.int .u8 1, .int .i64 0, .string ⟨#[49]⟩, .string ⟨#[50]⟩, .int .u8 0]] w fun e w' => e = .returned (.tuple #[]) ∧ w.grownBy w' (some s) ∧ ∃ q, w'.heap[s]? = some (.cells (sideC g m 1 q) 366 (0, 0)) := by
  obtain ⟨i374, hi, hy0, hy1, hy2⟩ := info_parts info374
  have h7 : w.cell? ⟨s, 7, none⟩ = some (.slice none 0 0) := cell?_blk hs 7
  have f7 : w.frozen? ⟨s, 7, none⟩ = false := by rw [frozen?_blk hs]; simp
  have hlt := lt_of_blk hs
  go_enter Tryz.func252, Tryz.ntmps252
  go_wp2
  go_region_law
    ((refine step_append_lies _ (by rfl) _ _ _ (by rfl) 0 374 i374 _ 5 56 (by kernel_rfl) hi hy0 hy1 hy2 rfl (by omega) (.slice none 0 0) 0 [] (by rfl) ⟨rfl, .inl ⟨rfl, rfl⟩⟩
        ⟨w.heap.size + 1, 0, none⟩ 1 1 [.int .u8 1, .int .i64 0, .string ⟨#[49]⟩, .string ⟨#[50]⟩, .int .u8 0] (by rfl) (by rfl) (World.news_of_block (cs := #[.int .u8 1, .int .i64 0, .string ⟨#[49]⟩, .string ⟨#[50]⟩, .int .u8 0]) (t := 374) (fr := (0, 0)) (alloc2_get _ _ _)) (by simp [Value.oneCell'])
        (by omega) (by unfold maxLen; omega) (by omega) (by simp) (w.heap.size + 2) (by simp) ?_; intro gg cap w1 hown1 hgrow hat1 hlt1
      have hE := send_facts (gg := gg) (cap := cap) hs hgrow
      clear hgrow hown1 hat1 hlt1
      obtain ⟨hc1, hf1, hE⟩ := hE))
  all_goals
   go_end0
   exact ⟨rfl, hE⟩

end Go.Sx

namespace Go.Sx
open Go Go.Proofs Go.RowKit

theorem info5 : (Tryz.prog.info? 5).map (fun i => (i.zero, i.size, i.bytes)) = some (some (.int .u8 0), 1, 1) := by kernel_rfl

theorem make29 (w : World) : (Instr.makeSlice 29 (.int .i64 1) (.int .i64 1)).run Tryz.prog w = .ok (.slice (some ⟨w.heap.size, 0, none⟩) 1 1) (w.alloc (.cells #[.int .u8 0] 5)) := by
  obtain ⟨i5, hi, hy0, hy1, hy2⟩ := info_parts info5
  have := run_makeSlice (P := Tryz.prog) w 29 5 i5 (.int .u8 0) (by kernel_rfl) hi hy0 .i64 .i64 1 1 (by omega) (by omega) (by rw [hy1]; omega) (by rw [hy2]; omega) (by omega)
  rw [hy1] at this
  have e : madeCells (Value.int .u8 0).cells (Int.toNat 1 * 1) = #[.int .u8 0] := by
    apply Array.ext_getElem?
    intro i
    simp only [madeCells, Array.getElem?_map]
    match i with
    | 0 => rfl
    | i + 1 => rw [Array.getElem?_range, if_neg (by simp)]; rfl
  rw [e] at this
  exact this

theorem conv29 (w : World) (b : Nat) (h : w.heap[b]? = some (.cells #[.int .u8 111] 5 (0, 0))) : (convert 29 9 (.slice (some ⟨b, 0, none⟩) 1 1)).run Tryz.prog w = .ok (.string ⟨#[111]⟩) w :=
  run_convert_bytes_back (P := Tryz.prog) w 29 9 5 ⟨b, 0, none⟩ 1 [111] (by kernel_rfl) (by kernel_rfl) (by kernel_rfl) (fun j hj => by
    have hj0 : j = 0 := by simp at hj; omega
    subst hj0
    rw [show (⟨b, 0, none⟩ : Addr).add 0 = ⟨b, 0, none⟩ from rfl, cell?_blk h]
    rfl)

set_option maxRecDepth 100000 in
set_option maxHeartbeats 1600000 in
theorem ri163 (w : World) (g c : Nat) (h : GrpAt w g c) (h0 : w.cell? ⟨c, 0, none⟩ = some (.int .u8 1)) (h1 : w.cell? ⟨c, 1, none⟩ = some (.int .u8 0)) (h2 : w.cell? ⟨c, 2, none⟩ = some (.int .i64 1)) :
    Calls Tryz.prog 163 #[.pointer (some ⟨g, 0, none⟩)] w fun e w' => e = .returned (.string ⟨#[111]⟩) ∧ w.grownBy w' none := by
  have hs := ri253 w g c h
  obtain ⟨a0, a1, a2⟩ := h
  have hm := make29
  have lg := World.block_lt_of_cell? w _ a0
  have lc := World.block_lt_of_cell? w _ h0
  have hx : ∀ h, ((⟨#[45, 111, 105]⟩ : ByteArray)[1]'h).toNat = 111 := fun _ => rfl
  have hb : ∀ o', ((w.alloc (Obj.cells #[Value.int IntKind.u8 111] 5)).alloc o').heap[w.heap.size]? = some (.cells #[.int .u8 111] 5 (0, 0)) := fun o' => by
    rw [alloc_get, if_neg (by show _ ≠ (w.heap.push _).size; simp), alloc_get, if_pos rfl]
  have hv := conv29 _ _ (hb (Obj.cells #[Value.int IntKind.u8 1, Value.int IntKind.u8 0, Value.int IntKind.i64 1] 378))
  clear hb
  go_enter Tryz.func163, Tryz.ntmps163
  go_wp2_with (go_at_call 253; refine hs.mono ?_; clear hs; rintro e w1 ⟨rfl, rfl⟩)
  refine wp_loop_rounds 3 ?_
  rw [rounds_succ]
  go_wp2
  rw [rounds_succ]
  go_wp2
  go_ret
  exact ⟨rfl, grown_trans (grown_alloc _ _) (grown_alloc _ _)⟩

end Go.Sx

namespace Go.Sx
open Go Go.Proofs Go.RowKit

structure RW (w0 w : World) (c g m s : Nat) (C : Array Value) (es : Array MapEntry) (k : Nat) (x : Int) (q : Value) : Prop where
  gr : w0.grownBy w none
  lc : w0.heap.size ≤ c
  cg : c < g
  gm : g < m
  ms : m < s
  hc : w.heap[c]? = some (.cells C 378 (0, 0))
  hg : w.heap[g]? = some (.cells #[.int .u16 2, .int .u16 1, .slice (some ⟨c, 0, none⟩) 1 1] 381 (0, 0))
  hm : w.heap[m]? = some (.map es k)
  hs : w.heap[s]? = some (.cells (sideC g m x q) 366 (0, 0))

theorem RW.grown {w0 w w' : World} {c g m s : Nat} {C : Array Value} {es : Array MapEntry} {k : Nat} {x : Int} {q : Value} (h : RW w0 w c g m s C es k x q) (hg : w.grownBy w' none) : RW w0 w' c g m s C es k x q :=
  ⟨grown_trans h.gr hg, h.lc, h.cg, h.gm, h.ms, blk_grown h.hc hg, blk_grown h.hg hg, blk_grown h.hm hg, blk_grown h.hs hg⟩

theorem RW.grp {w0 w : World} {c g m s : Nat} {C : Array Value} {es : Array MapEntry} {k : Nat} {x : Int} {q : Value} (h : RW w0 w c g m s C es k x q) : GrpAt w g c :=
  ⟨cell?_blk h.hg 0, cell?_blk h.hg 1, cell?_blk h.hg 2⟩

theorem RW.side {w0 w : World} {c g m s : Nat} {C : Array Value} {es : Array MapEntry} {k : Nat} {x : Int} {q : Value} (h : RW w0 w c g m s C es k x q) :
    w.cell? ⟨s, 3, none⟩ = some (.pointer (some ⟨g, 0, none⟩)) ∧ w.cell? ⟨s, 5, none⟩ = some (.map (some m)) ∧ w.cell? ⟨s, 6, none⟩ = some (.int .i64 x) ∧ w.frozen? ⟨s, 6, none⟩ = false :=
  ⟨cell?_blk h.hs 3, cell?_blk h.hs 5, cell?_blk h.hs 6, by rw [frozen?_blk h.hs]; simp⟩

theorem gr_some {w0 w w' : World} {b : Nat} (h : w0.grownBy w none) (hg : w.grownBy w' (some b)) (hb : w0.heap.size ≤ b) : w0.grownBy w' none :=
  ⟨hg.os.trans h.os, hg.tape.trans h.tape, hg.output.trans h.output, Nat.le_trans h.size hg.size, fun k hk hn => (hg.block k (Nat.lt_of_lt_of_le hk h.size) (fun e => by cases e; omega)).trans (h.block k hk hn)⟩

theorem blk_some {w w' : World} {b c : Nat} {o : Obj} (h : w.heap[c]? = some o) (hg : w.grownBy w' (some b)) (hne : c ≠ b) : w'.heap[c]? = some o := by
  rw [hg.block c (lt_of_blk h) (fun e => hne (by cases e; rfl))]; exact h

theorem RW.hunt {w0 w w' : World} {c g m s : Nat} {C C' : Array Value} {es : Array MapEntry} {k : Nat} {x : Int} {q : Value} (h : RW w0 w c g m s C es k x q) (hg : w.grownBy w' (some c)) (hc : w'.heap[c]? = some (.cells C' 378 (0, 0))) : RW w0 w' c g m s C' es k x q := by
  have := h.cg; have := h.gm; have := h.ms
  exact ⟨gr_some h.gr hg h.lc, h.lc, h.cg, h.gm, h.ms, hc, blk_some h.hg hg (by omega), blk_some h.hm hg (by omega), blk_some h.hs hg (by omega)⟩

theorem RW.sent {w0 w w' : World} {c g m s : Nat} {C : Array Value} {es : Array MapEntry} {k : Nat} {x x' : Int} {q q' : Value} (h : RW w0 w c g m s C es k x q) (hg : w.grownBy w' (some s)) (hs : w'.heap[s]? = some (.cells (sideC g m x' q') 366 (0, 0))) : RW w0 w' c g m s C es k x' q' := by
  have := h.cg; have := h.gm; have := h.ms; have := h.lc
  exact ⟨gr_some h.gr hg (by omega), h.lc, h.cg, h.gm, h.ms, blk_some h.hc hg (by omega), blk_some h.hg hg (by omega), blk_some h.hm hg (by omega), hs⟩

theorem grown_setBlk {w : World} {b : Nat} (o : Obj) (hlt : b < w.heap.size) : w.grownBy (setBlk w b o) (some b) :=
  ⟨rfl, rfl, rfl, by rw [setBlk_size]; exact Nat.le_refl _, fun k hk hn => by rw [setBlk_get hlt, if_neg (fun e => hn (by rw [e]))]⟩

theorem RW.mapped {w0 w : World} {c g m s : Nat} {C : Array Value} {es es' : Array MapEntry} {k k' : Nat} {x : Int} {q : Value} (h : RW w0 w c g m s C es k x q) : RW w0 (setBlk w m (.map es' k')) c g m s C es' k' x q := by
  have := h.cg; have := h.gm; have := h.ms; have := h.lc
  have hlt := lt_of_blk h.hm
  have hg := grown_setBlk (w := w) (Obj.map es' k') hlt
  exact ⟨gr_some h.gr hg (by omega), h.lc, h.cg, h.gm, h.ms, blk_some h.hc hg (by omega), blk_some h.hg hg (by omega), by rw [setBlk_get hlt, if_pos rfl], blk_some h.hs hg (by omega)⟩

theorem RW.count {w0 w : World} {c g m s : Nat} {C : Array Value} {es : Array MapEntry} {k : Nat} {q : Value} (h : RW w0 w c g m s C es k 0 q) : RW w0 (w.setCell ⟨s, 6, none⟩ (.int .i64 1)) c g m s C es k 1 q := by
  rw [setCell_blk h.hs]
  exact h.sent (grown_setBlk _ (lt_of_blk h.hs)) (by rw [setBlk_get (lt_of_blk h.hs), if_pos rfl]; rfl)

set_option maxRecDepth 100000 in
set_option maxHeartbeats 1600000 in
theorem ri159 (w : World) : Calls Tryz.prog 159 #[.int .u16 2, .int .u16 1, .int .i64 1, .agg #[.int .i64 9, .int .i64 9, .int .i64 9]] w fun e w' => ∃ c g m s, e = .returned (.tuple #[.pointer (some ⟨s, 0, none⟩), .int .i64 0]) ∧
    RW w w' c g m s #[.int .u8 0, .int .u8 0, .int .i64 0] #[] 0 0 (.slice none 0 0) := by
  have hm := mk362
  go_enter Tryz.func159, Tryz.ntmps159
  go_wp2_with (go_at_call 248; refine (ri248 _).mono ?_; rintro e w1 ⟨rfl, rfl⟩)
  go_ret2
  refine ⟨w.heap.size + 1, w.heap.size + 1 + 1, w.heap.size + 1 + 1 + 1, w.heap.size + 1 + 1 + 1 + 1, rfl, ?_⟩
  refine ⟨grown_alloc' (grown_alloc' (grown_alloc' (grown_alloc' (grown_alloc _ _) _) _) _) _, by omega, by omega, by omega, by omega, ?_, ?_, ?_, ?_⟩
  all_goals
    simp only [alloc_get, alloc_size]
    repeat (first | rw [if_pos rfl] | rw [if_pos True.intro] | rw [if_neg (by omega)])
    try rfl

end Go.Sx

namespace Go.Sx
open Go Go.Proofs Go.RowKit

set_option maxRecDepth 100000 in
set_option maxHeartbeats 1600000 in
theorem ri160 (w0 w : World) (c g m s : Nat) (h : RW w0 w c g m s #[.int .u8 0, .int .u8 0, .int .i64 0] #[] 0 0 (.slice none 0 0)) :
    Calls Tryz.prog 160 #[.pointer (some ⟨s, 0, none⟩), .string ⟨#[49]⟩, .string ⟨#[50]⟩] w fun e w' => e = .returned (.tuple #[.int .i64 1, .int .i64 0]) ∧
      ∃ b q, RW w0 w' c g m s #[.int .u8 1, .int .u8 0, .int .i64 1] #[{ key := .int .i64 1, val := .pointer (some ⟨b, 0, none⟩), born := 0 }] 1 1 q ∧ w'.cell? ⟨b, 0, none⟩ = some (.int .u8 1) := by
  go_enter Tryz.func160, Tryz.ntmps160
  go_wp2_with (first
    | (go_at_call 249; refine (ri249 _ s g h.side.1).mono ?_; rintro e w1 ⟨rfl, rfl⟩)
    | (go_at_call 250; refine (ri250 _ 49 (.inl rfl)).mono ?_; rintro e w2 ⟨rfl, hg1⟩; have h2 := h.grown hg1; clear hg1 h)
    | (go_at_call 250; refine (ri250 _ 50 (.inr rfl)).mono ?_; rintro e w3 ⟨rfl, hg2⟩; have h3 := h2.grown hg2; clear hg2 h2))
  obtain ⟨k3, k5, k6, f6⟩ := h3.side
  have j3 : w3.drew.cell? { block := s, off := 3 } = some (Value.pointer (some { block := g, off := 0 })) := k3
  have j6 : w3.drew.cell? { block := s, off := 6 } = some (Value.int IntKind.i64 0) := k6
  have hu := ri251 w3.drew g c (by have := h3.cg; omega) (lt_of_blk h3.hg) (⟨h3.grp.c0, h3.grp.c1, h3.grp.c2⟩) h3.hc
  go_region_held3 (fun w' => w'.cell? ⟨s, 3, none⟩ = some (Value.pointer (some { block := g, off := 0 })) ∧ w'.cell? ⟨s, 6, none⟩ = some (Value.int IntKind.i64 0)) (go_keep) (first | (go_at_call 251; refine hu.mono ?_; rintro e w4 ⟨rfl, hg4, hc4⟩; have h4 := h3.hunt (w' := w4) ⟨hg4.os, hg4.tape, hg4.output, hg4.size, hg4.block⟩ hc4; clear h3 k3 k5 k6 f6 j3 j6 hu hg4 hc4; obtain ⟨k3, k5, k6, f6⟩ := h4.side))
  go_wp2
  have h5 := h4.count
  clear h4 k3 k5 k6 f6
  generalize w4.setCell { block := s, off := 6 } (Value.int IntKind.i64 1) = w5 at h5 ⊢
  obtain ⟨k3, k5, k6, f6⟩ := h5.side
  have j5 : w5.drew.cell? { block := s, off := 5 } = some (Value.map (some m)) := k5
  have j6 : w5.drew.cell? { block := s, off := 6 } = some (Value.int IntKind.i64 1) := k6
  have h6 : RW w0 (w5.alloc (Obj.cells #[Value.int IntKind.u8 1, Value.int IntKind.i64 0, Value.int IntKind.i64 0, Value.string { data := #[49] }, Value.string { data := #[50] }, Value.int IntKind.u8 0] 370)).drew c g m s #[.int .u8 1, .int .u8 0, .int .i64 1] #[] 0 1 (.slice none 0 0) := h5.grown (grown_drew (grown_alloc _ _))
  have hput := put362 _ m (Value.pointer (some { block := w5.heap.size, off := 0 })) h6.hm
  have h7 := h6.mapped (es' := #[{ key := .int .i64 1, val := .pointer (some ⟨w5.heap.size, 0, none⟩), born := 0 }]) (k' := 1)
  have hb6 : (w5.alloc (Obj.cells #[Value.int IntKind.u8 1, Value.int IntKind.i64 0, Value.int IntKind.i64 0, Value.string { data := #[49] }, Value.string { data := #[50] }, Value.int IntKind.u8 0] 370)).drew.heap[w5.heap.size]? = some (Obj.cells #[Value.int IntKind.u8 1, Value.int IntKind.i64 0, Value.int IntKind.i64 0, Value.string { data := #[49] }, Value.string { data := #[50] }, Value.int IntKind.u8 0] 370) := by
    show (w5.alloc _).heap[w5.heap.size]? = _
    rw [alloc_get, if_pos rfl]
  have hbm : w5.heap.size ≠ m := fun e => by have := lt_of_blk h5.hm; omega
  have hb7 : (setBlk (w5.alloc (Obj.cells #[Value.int IntKind.u8 1, Value.int IntKind.i64 0, Value.int IntKind.i64 0, Value.string { data := #[49] }, Value.string { data := #[50] }, Value.int IntKind.u8 0] 370)).drew m (.map #[{ key := .int .i64 1, val := .pointer (some ⟨w5.heap.size, 0, none⟩), born := 0 }] 1)).heap[w5.heap.size]? = some (Obj.cells #[Value.int IntKind.u8 1, Value.int IntKind.i64 0, Value.int IntKind.i64 0, Value.string { data := #[49] }, Value.string { data := #[50] }, Value.int IntKind.u8 0] 370) := by
    rw [setBlk_get (lt_of_blk h6.hm), if_neg hbm]
    exact hb6
  obtain ⟨i3, i5, i6, _⟩ := h7.side
  clear hbm hb6 h6 f6 i3
  generalize hW : setBlk (w5.alloc (Obj.cells #[Value.int IntKind.u8 1, Value.int IntKind.i64 0, Value.int IntKind.i64 0, Value.string { data := #[49] }, Value.string { data := #[50] }, Value.int IntKind.u8 0] 370)).drew m (.map #[{ key := .int .i64 1, val := .pointer (some ⟨w5.heap.size, 0, none⟩), born := 0 }] 1) = w6 at *
  clear hW
  have hb8 : w6.cell? ⟨w5.heap.size, 0, none⟩ = some (.int .u8 1) := cell?_blk hb7 0
  have h8 : Hid _ := And.intro h7 (And.intro hb7 (lt_of_blk h5.hs))
  clear h7 hb7 hb8 h5
  go_region_held3 (fun w' => w'.cell? ⟨s, 5, none⟩ = some (Value.map (some m)) ∧ w'.cell? ⟨s, 6, none⟩ = some (Value.int IntKind.i64 1)) (go_keep) (fail)
  obtain ⟨h7, hb7, hlt5⟩ := h8.out
  clear hput h8
  go_wp2_with (first
    | (go_at_call 252; refine (ri252 _ s g m h7.hs).mono ?_; rintro e w7 ⟨rfl, hg7, q, hs7⟩; have h9 := h7.sent hg7 hs7; have hb9 := blk_some hb7 hg7 (by omega); obtain ⟨_, _, l6, _⟩ := h9.side))
  go_ret2
  exact ⟨rfl, _, q, h9, cell?_blk hb9 0⟩

set_option maxRecDepth 100000 in
set_option maxHeartbeats 1600000 in
theorem rings33 (w : World) : Calls Tryz.prog 33 #[] w fun e w' => e = .returned (.bool true) ∧ w.grownBy w' none := by
  go_enter Tryz.func33, Tryz.ntmps33
  go_wp2_with (first
    | (go_at_call 159; refine (ri159 _).mono ?_; rintro e w2 ⟨c, g, m, s, rfl, h2⟩)
    | (go_at_call 160; refine (ri160 _ _ c g m s h2).mono ?_; rintro e w3 ⟨rfl, b, q, h3, hb⟩)
    | (go_at_call 161; refine (ri161 _ s g m b h3.side.1 h3.side.2.1 h3.hm hb).mono ?_; rintro e w4 ⟨rfl, rfl⟩)
    | (go_at_call 162; refine (ri162 _ s g h3.side.1).mono ?_; rintro e w5 ⟨rfl, rfl⟩)
    | (go_at_call 163; refine (ri163 _ g c h3.grp (cell?_blk h3.hc 0) (cell?_blk h3.hc 1) (cell?_blk h3.hc 2)).mono ?_; rintro e w6 ⟨rfl, hg6⟩))
  go_ret
  exact ⟨rfl, grown_trans (grown_trans (grown_alloc _ _) h3.gr) hg6⟩

end Go.Sx
