/- Part R of a proof: helper lemmas; no conditions. -/
import Derived.Test.YtiecagflhhmfnaaDoorK
import Derived.Test.YtiecagflhhmfnaaDoorProg
import Derived.WalkKit
import Derived.Shelf.Strings.SlTrimAscii
import Derived.KernelRfl
import Derived.Below
import Derived.MapKept
import Derived.Maps.Keyed
import Derived.Deep.LoopGhost
import Derived.WalkSpells
import Derived.StillTactics
import Derived.OwnWalk
import Derived.Laws.Pointers
import Derived.Deep.RegionLaw
import Derived.Deep.AppendLies
import Derived.Handy
import Derived.Deep.RegionHeld3

set_option linter.unusedSimpArgs false
set_option linter.unusedVariables false

namespace Go.Sx
open Go Go.Proofs Go.Shelf Go.RowKit

def lays160_ren : Go.Shelf.Ren := ⟨fun | 160 => 225 | 232 => 240 | 231 => 239 | 227 => 241 | 234 => 243 | 233 => 242 | 236 => 245 | 235 => 244 | 228 => 250 | 271 => 253 | 151 => 252 | 197 => 251 | 120 => 257 | 152 => 256 | 260 => 255 | 137 => 258 | 119 => 259 | 224 => 260 | 225 => 261 | 217 => 262 | 266 => 263 | n => n, fun | 9 => 9 | 4 => 4 | 3 => 3 | 5 => 5 | 117 => 356 | 116 => 355 | 0 => 0 | 124 => 359 | 21 => 21 | 105 => 364 | 46 => 206 | 119 => 369 | 139 => 372 | 138 => 371 | n => n, fun | 3 => 1 | 4 => 2 | n => n⟩

theorem lays160 : Go.Proofs.Lays.n160 Tryd.prog lays160_ren := {
  mixed := by kernel_rfl
  f119 := Tryd.func259.trans (congrArg some (by kernel_rfl))
  f120 := Tryd.func257.trans (congrArg some (by kernel_rfl))
  f137 := Tryd.func258.trans (congrArg some (by kernel_rfl))
  f151 := Tryd.func252.trans (congrArg some (by kernel_rfl))
  f152 := Tryd.func256.trans (congrArg some (by kernel_rfl))
  f160 := Tryd.func225.trans (congrArg some (by kernel_rfl))
  f197 := Tryd.func251.trans (congrArg some (by kernel_rfl))
  f217 := Tryd.func262.trans (congrArg some (by kernel_rfl))
  f224 := Tryd.func260.trans (congrArg some (by kernel_rfl))
  f225 := Tryd.func261.trans (congrArg some (by kernel_rfl))
  f227 := Tryd.func241.trans (congrArg some (by kernel_rfl))
  f228 := Tryd.func250.trans (congrArg some (by kernel_rfl))
  f231 := Tryd.func239.trans (congrArg some (by kernel_rfl))
  f232 := Tryd.func240.trans (congrArg some (by kernel_rfl))
  f233 := Tryd.func242.trans (congrArg some (by kernel_rfl))
  f234 := Tryd.func243.trans (congrArg some (by kernel_rfl))
  f235 := Tryd.func244.trans (congrArg some (by kernel_rfl))
  f236 := Tryd.func245.trans (congrArg some (by kernel_rfl))
  f260 := Tryd.func255.trans (congrArg some (by kernel_rfl))
  f266 := Tryd.func263.trans (congrArg some (by kernel_rfl))
  f271 := Tryd.func253.trans (congrArg some (by kernel_rfl))
  t0 := Tryd.underlying0
  a0 := Tryd.isAgg0
  z0 := Tryd.sizeOf0
  v0 := Tryd.zeroValue0
  t3 := Tryd.underlying3
  a3 := Tryd.isAgg3
  z3 := Tryd.sizeOf3
  v3 := Tryd.zeroValue3
  t4 := Tryd.underlying4
  a4 := Tryd.isAgg4
  z4 := Tryd.sizeOf4
  v4 := Tryd.zeroValue4
  t5 := Tryd.underlying5
  a5 := Tryd.isAgg5
  z5 := Tryd.sizeOf5
  v5 := Tryd.zeroValue5
  t9 := Tryd.underlying9
  a9 := Tryd.isAgg9
  z9 := Tryd.sizeOf9
  v9 := Tryd.zeroValue9
  t21 := Tryd.underlying21
  a21 := Tryd.isAgg21
  z21 := Tryd.sizeOf21
  v21 := Tryd.zeroValue21
  t46 := Tryd.underlying206
  a46 := Tryd.isAgg206
  z46 := Tryd.sizeOf206
  v46 := Tryd.zeroValue206
  t105 := Tryd.underlying364
  a105 := Tryd.isAgg364
  z105 := Tryd.sizeOf364
  v105 := Tryd.zeroValue364
  t116 := Tryd.underlying355
  a116 := Tryd.isAgg355
  z116 := Tryd.sizeOf355
  t117 := Tryd.underlying356
  a117 := Tryd.isAgg356
  z117 := Tryd.sizeOf356
  v117 := Tryd.zeroValue356
  t119 := Tryd.underlying369
  a119 := Tryd.isAgg369
  z119 := Tryd.sizeOf369
  t124 := Tryd.underlying359
  a124 := Tryd.isAgg359
  z124 := Tryd.sizeOf359
  v124 := Tryd.zeroValue359
  t138 := Tryd.underlying371
  a138 := Tryd.isAgg371
  z138 := Tryd.sizeOf371
  v138 := Tryd.zeroValue371
  t139 := Tryd.underlying372
  a139 := Tryd.isAgg372
  z139 := Tryd.sizeOf372
  v139 := Tryd.zeroValue372
  g3 := by kernel_rfl
  g4 := by kernel_rfl }

theorem grown_of_below {w w' : World} (h : Below w.heap.size w w') : w.grownBy w' none := ⟨h.os, h.tape, h.output, h.size, fun k hk _ => h.block k hk⟩

theorem ri225 (w : World) (c : UInt8) (hc : c = 49 ∨ c = 50) : Calls Tryd.prog 225 #[.string ⟨#[c]⟩, .string ⟨#[48, 49, 50, 51, 52, 53, 54, 55, 56, 57]⟩] w fun e w' => e = .returned (.string ⟨#[]⟩) ∧ w.grownBy w' none := by
  have hcon := Any.strings_Trim_laid lays160 (by kernel_rfl) ⟨#[c]⟩ ⟨#[48, 49, 50, 51, 52, 53, 54, 55, 56, 57]⟩ w (by simp [ByteArray.size]) (by decide) (ascii_of_all (by decide))
  change Calls Tryd.prog 225 _ _ _ at hcon
  refine hcon.mono ?_
  rintro e w' ⟨rfl, hB⟩
  refine ⟨?_, grown_of_below hB⟩
  rcases hc with rfl | rfl <;> rfl

end Go.Sx

namespace Go.Sx
open Go Go.Proofs Go.RowKit


theorem und283 : Tryd.prog.underlying 283 = some (.map 3 290) := by kernel_rfl
theorem und3 : Tryd.prog.underlying 3 = some (.int .i64) := by kernel_rfl
theorem int3 : Maps.Keyed Tryd.prog 3 := Maps.int_keyed und3

theorem mk283 (w : World) : (Instr.makeMap 283 none).run Tryd.prog w = .ok (.map (some w.heap.size)) (w.alloc (.map #[] 0)) := by
  simp [Instr.makeMap]

theorem put283 (w : World) (m : Nat) (v : Value) (h : w.heap[m]? = some (.map #[] 0)) :
    (Instr.mapUpdate 283 (.map (some m)) (.int .i64 1) v).run Tryd.prog w = .ok () (setBlk w m (.map #[{ key := .int .i64 1, val := v, born := 0 }] 1)) := by
  have hf := MapKept.run_findKey (w := w) (kt := 3) (k := .int .i64 1) (l := []) und3 rfl
  have hc := int3.check w false (v := .int .i64 1) (l := .int .i64 1) (by kernel_rfl)
  simp [Instr.mapUpdate, run_underlying und283, MapKept.run_getObj_map h, hc, hf, MapKept.run_setObj_map _ h, Result.andThen, setBlk]

theorem get283 (w : World) (m : Nat) (v : Value) (h : w.heap[m]? = some (.map #[{ key := .int .i64 1, val := v, born := 0 }] 1)) :
    (Instr.lookup 283 (.map (some m)) (.int .i64 1) false).run Tryd.prog w = .ok v w := by
  have hf := MapKept.run_findKey (w := w) (kt := 3) (k := .int .i64 1) (l := [{ key := .int .i64 1, val := v, born := 0 }]) und3 rfl
  have hc := int3.check w false (v := .int .i64 1) (l := .int .i64 1) (by kernel_rfl)
  simp [Instr.lookup, run_underlying und283, MapKept.run_getObj_map h, hc, hf, Result.andThen]

set_option maxRecDepth 100000 in
set_option maxHeartbeats 1600000 in
theorem ri215 (w : World) (c : UInt8) (hc : c = 49 ∨ c = 50) : Calls Tryd.prog 215 #[.string ⟨#[c]⟩] w fun e w' => e = .returned (.bool true) ∧ w.grownBy w' none := by
  have h := ri225 w c hc
  have hx : (⟨#[c]⟩ : ByteArray).size = 1 := rfl
  go_enter Tryd.func215, Tryd.ntmps215
  go_wp2_with ((refine h.mono ?_; clear h; rintro e w1 ⟨rfl, hg⟩))
  go_ret
  exact ⟨rfl, hg⟩

set_option maxRecDepth 100000 in
set_option maxHeartbeats 1600000 in
theorem ri193 (w : World) (c : UInt8) (hc : c = 49 ∨ c = 50) : Calls Tryd.prog 193 #[.string ⟨#[c]⟩] w fun e w' => e = .returned (.bool true) ∧ w.grownBy w' none := by
  have h := ri215 w c hc
  have hx : (⟨#[c]⟩ : ByteArray).size = 1 := rfl
  go_enter Tryd.func193, Tryd.ntmps193
  go_wp2_with ((refine h.mono ?_; clear h; rintro e w1 ⟨rfl, hg⟩))
  go_ret
  exact ⟨rfl, hg⟩

set_option maxRecDepth 100000 in
set_option maxHeartbeats 1600000 in
theorem ri217 (w : World) : Calls Tryd.prog 217 #[.agg #[.int .u8 0, .int .u8 0, .int .i64 0]] w fun e w' => e = .returned (.bool true) ∧ w.grownBy w' none := by
  go_enter Tryd.func217, Tryd.ntmps217
  go_wp2
  go_ret
  exact ⟨rfl, grown_alloc w _⟩

set_option maxRecDepth 100000 in
set_option maxHeartbeats 1600000 in
theorem ri247 (w : World) (b : Nat) (h : w.cell? ⟨b, 0, none⟩ = some (.int .i64 1)) : Calls Tryd.prog 247 #[.agg #[.int .u8 0, .int .u8 0, .int .i64 0], .pointer (some ⟨b, 0, none⟩)] w fun e w' => e = .returned (.bool false) ∧ w.grownBy w' none := by
  go_enter Tryd.func247, Tryd.ntmps247
  go_wp2
  go_ret
  exact ⟨rfl, grown_alloc w _⟩

/-- the group -/
structure GrpAt (w : World) (g c : Nat) : Prop where
  c0 : w.cell? ⟨g, 0, none⟩ = some (.int .u16 2)
  c1 : w.cell? ⟨g, 1, none⟩ = some (.int .u16 1)
  c2 : w.cell? ⟨g, 2, none⟩ = some (.slice (some ⟨c, 0, none⟩) 1 1)

set_option maxRecDepth 100000 in
set_option maxHeartbeats 1600000 in
theorem ri196 (w : World) (g c : Nat) (h : GrpAt w g c) : Calls Tryd.prog 196 #[.pointer (some ⟨g, 0, none⟩)] w fun e w' => e = .returned (.int .i64 1) ∧ w' = w := by
  obtain ⟨h0, h1, h2⟩ := h
  go_enter Tryd.func196, Tryd.ntmps196
  go_wp2
  go_ret
  exact ⟨rfl, rfl⟩

set_option maxRecDepth 100000 in
set_option maxHeartbeats 1600000 in
theorem ri227 (w : World) (g c : Nat) (h : GrpAt w g c) : Calls Tryd.prog 227 #[.pointer (some ⟨g, 0, none⟩), .int .i64 0] w fun e w' => e = .returned (.bool true) ∧ w' = w := by
  have hs := ri196 w g c h
  go_enter Tryd.func227, Tryd.ntmps227
  go_wp2_with ((refine hs.mono ?_; clear hs; rintro e w1 ⟨rfl, rfl⟩))
  go_ret
  exact ⟨rfl, rfl⟩

end Go.Sx

namespace Go.Sx
open Go Go.Proofs Go.RowKit

/-- the one circuit, free -/
structure CirAt (w : World) (c : Nat) : Prop where
  c0 : w.cell? ⟨c, 0, none⟩ = some (.int .u8 0)
  c1 : w.cell? ⟨c, 1, none⟩ = some (.int .u8 0)
  c2 : w.cell? ⟨c, 2, none⟩ = some (.int .i64 0)

set_option maxRecDepth 100000 in
set_option maxHeartbeats 1600000 in
theorem ri246 (w : World) (c b : Nat) (h : CirAt w c) (hb : w.cell? ⟨b, 0, none⟩ = some (.int .i64 1)) : Calls Tryd.prog 246 #[.slice (some ⟨c, 0, none⟩) 1 1, .func (.func 247) #[] #[.pointer (some ⟨b, 0, none⟩)]] w fun e w' => e = .returned (.int .i64 (-1)) ∧ w.grownBy w' none := by
  obtain ⟨h0, h1, h2⟩ := h
  have hs := ri247 w b hb
  go_enter Tryd.func246, Tryd.ntmps246
  go_wp2
  refine wp_loop_rounds 3 ?_
  rw [rounds_succ]
  go_wp2_with ((refine hs.mono ?_; clear hs; rintro e w1 ⟨rfl, hg⟩))
  rw [rounds_succ]
  go_wp2
  go_ret
  exact ⟨rfl, hg⟩

set_option maxRecDepth 100000 in
set_option maxHeartbeats 1600000 in
theorem ri226 (w : World) (g c : Nat) (hg : g < w.heap.size) (hc : c < w.heap.size) (h : GrpAt w g c) (k : CirAt w c) : Calls Tryd.prog 226 #[.pointer (some ⟨g, 0, none⟩), .int .i64 1] w fun e w' => e = .returned (.int .i64 (-1)) ∧ w.grownBy w' none := by
  obtain ⟨h0, h1, h2⟩ := h
  obtain ⟨k0, k1, k2⟩ := k
  go_enter Tryd.func226, Tryd.ntmps226
  have hh := ri246 (w.alloc (Obj.cells #[Value.int IntKind.i64 1] 3)) c w.heap.size ⟨by go_simp, by go_simp, by go_simp⟩ (by go_simp)
  go_wp2_with (go_at_call 246; refine hh.mono ?_; clear hh; rintro e w1 ⟨rfl, hg⟩)
  go_ret
  exact ⟨rfl, grown_trans (grown_alloc w _) hg⟩

set_option maxRecDepth 100000 in
set_option maxHeartbeats 1600000 in
theorem ri216 (w : World) (g c : Nat) (hg : g < w.heap.size) (hc : c < w.heap.size) (h : GrpAt w g c) (k : CirAt w c) : Calls Tryd.prog 216 #[.pointer (some ⟨g, 0, none⟩), .int .i64 1] w fun e w' => e = .returned (.int .i64 0) ∧ w.grownBy w' none := by
  have h1 := ri196 w g c h
  have h2 := ri226 w g c hg hc h k
  go_enter Tryd.func216, Tryd.ntmps216
  go_wp2_with (first
    | (go_at_call 196; refine h1.mono ?_; clear h1; rintro e w1 ⟨rfl, rfl⟩)
    | (go_at_call 226; refine h2.mono ?_; clear h2; rintro e w2 ⟨rfl, hg2⟩))
  go_ret
  exact ⟨rfl, hg2⟩

end Go.Sx

namespace Go.Sx
open Go Go.Proofs Go.RowKit

set_option maxRecDepth 100000 in
set_option maxHeartbeats 1600000 in
theorem ri218 (w : World) (g c : Nat) (h : GrpAt w g c) : Calls Tryd.prog 218 #[.pointer (some ⟨g, 0, none⟩), .int .i64 0] w fun e w' => e = .returned (.bool true) ∧ w.grownBy w' none := by
  obtain ⟨h0, h1, h2⟩ := h
  have hs := ri227 w.drew g c ⟨h0, h1, h2⟩
  have k0 : w.drew.cell? { block := g, off := 0 } = some (Value.int IntKind.u16 2) := h0
  have k1 : w.drew.cell? { block := g, off := 1 } = some (Value.int IntKind.u16 1) := h1
  go_enter Tryd.func218, Tryd.ntmps218
  go_wp2
  go_region_held3 (fun w' => w'.cell? ⟨g, 0, none⟩ = some (Value.int IntKind.u16 2) ∧ w'.cell? ⟨g, 1, none⟩ = some (Value.int IntKind.u16 1)) (go_keep) (first | (go_at_call 227; refine hs.mono ?_; clear hs; rintro e w1 ⟨rfl, rfl⟩))
  go_wp2
  go_ret
  exact ⟨rfl, grown_drew (grown_refl w)⟩

end Go.Sx

namespace Go.Sx
open Go Go.Proofs Go.RowKit

theorem GrpAt.grown {w w' : World} {g c : Nat} (h : GrpAt w g c) (hg : w.grownBy w' none) (hlt : g < w.heap.size) : GrpAt w' g c := by
  have e : ∀ o, w'.cell? ⟨g, o, none⟩ = w.cell? ⟨g, o, none⟩ := fun o => by simp only [World.cell?]; rw [hg.block g hlt (by simp)]
  exact ⟨by rw [e]; exact h.c0, by rw [e]; exact h.c1, by rw [e]; exact h.c2⟩

theorem blk_grown {w w' : World} {c : Nat} {o : Obj} (h : w.heap[c]? = some o) (hg : w.grownBy w' none) : w'.heap[c]? = some o := by
  rw [hg.block c (lt_of_blk h) (by simp)]; exact h

theorem CirAt.of {w : World} {c : Nat} (h : w.heap[c]? = some (.cells #[.int .u8 0, .int .u8 0, .int .i64 0] 301 (0, 0))) : CirAt w c :=
  ⟨by rw [cell?_blk h]; rfl, by rw [cell?_blk h]; rfl, by rw [cell?_blk h]; rfl⟩

theorem hunt_stores {w : World} {c : Nat} (hb : w.heap[c]? = some (.cells #[.int .u8 0, .int .u8 0, .int .i64 0] 301 (0, 0))) :
    w.cell? ⟨c, 0, none⟩ = some (.int .u8 0) ∧ w.frozen? ⟨c, 0, none⟩ = false ∧ (w.setCell ⟨c, 0, none⟩ (.int .u8 1)).cell? ⟨c, 2, none⟩ = some (.int .i64 0) ∧
    (w.setCell ⟨c, 0, none⟩ (.int .u8 1)).frozen? ⟨c, 2, none⟩ = false ∧ w.grownBy (w.setCell ⟨c, 0, none⟩ (.int .u8 1)) (some c) ∧
    w.grownBy ((w.setCell ⟨c, 0, none⟩ (.int .u8 1)).setCell ⟨c, 2, none⟩ (.int .i64 1)) (some c) ∧
    ((w.setCell ⟨c, 0, none⟩ (.int .u8 1)).setCell ⟨c, 2, none⟩ (.int .i64 1)).heap[c]? = some (.cells #[.int .u8 1, .int .u8 0, .int .i64 1] 301 (0, 0)) := by
  have hlt := lt_of_blk hb
  have hg : ∀ o : Obj, w.grownBy (setBlk w c o) (some c) := fun o => ⟨rfl, rfl, rfl, by rw [setBlk_size]; exact Nat.le_refl _, fun k hk hn => by rw [setBlk_get hlt, if_neg (fun e => hn (by rw [e]))]⟩
  have e1 := setCell_blk (o := 0) hb (.int .u8 1)
  have hb1 : (w.setCell ⟨c, 0, none⟩ (.int .u8 1)).heap[c]? = some (.cells #[.int .u8 1, .int .u8 0, .int .i64 0] 301 (0, 0)) := by rw [e1, setBlk_get hlt, if_pos rfl]; rfl
  have e2 := setCell_blk (o := 2) hb1 (.int .i64 1)
  refine ⟨by rw [cell?_blk hb]; rfl, by rw [frozen?_blk hb]; simp, by rw [cell?_blk hb1]; rfl, by rw [frozen?_blk hb1]; simp, by rw [e1]; exact hg _, by rw [e2, e1, setBlk_setBlk]; exact hg _, ?_⟩
  rw [e2, e1, setBlk_setBlk, setBlk_get hlt, if_pos rfl]
  rfl

theorem cell_some {w w' : World} {c g o : Nat} (h : w.grownBy w' (some c)) (hg : g < w.heap.size) (hgc : g ≠ c) : w'.cell? ⟨g, o, none⟩ = w.cell? ⟨g, o, none⟩ := by
  simp only [World.cell?]
  rw [h.block g hg (fun e => hgc (by cases e; rfl))]

set_option maxRecDepth 100000 in
set_option maxHeartbeats 1600000 in
theorem ri194 (w : World) (g c : Nat) (hgc : g ≠ c) (hg : g < w.heap.size) (h : GrpAt w g c) (hc : w.heap[c]? = some (.cells #[.int .u8 0, .int .u8 0, .int .i64 0] 301 (0, 0))) : Calls Tryd.prog 194 #[.pointer (some ⟨g, 0, none⟩), .int .i64 1] w fun e w' => e = .returned (.tuple #[.int .i64 0, .int .i64 0]) ∧ w.grownBy w' (some c) ∧ w'.heap[c]? = some (.cells #[.int .u8 1, .int .u8 0, .int .i64 1] 301 (0, 0)) := by
  have h1 := ri216 w g c hg (lt_of_blk hc) h (CirAt.of hc)
  go_enter Tryd.func194, Tryd.ntmps194
  go_wp2_with (go_at_call 216; refine h1.mono ?_; clear h1; rintro e w1 ⟨rfl, hg1⟩; obtain ⟨a0, a1, a2⟩ := h.grown hg1 hg; obtain ⟨b0, b1, b2⟩ := CirAt.of (blk_grown hc hg1))
  refine wp_loop_rounds 3 ?_
  rw [rounds_succ]
  go_wp2_with (first
    | (go_at_call 217; refine (ri217 _).mono ?_; rintro e w2 ⟨rfl, hg2⟩; have hw2 := grown_trans (grown_trans hg1 (grown_alloc w1 _)) hg2; clear a0 a1 a2 b0 b1 b2)
    | (go_at_call 218; refine (ri218 _ g c (h.grown hw2 hg)).mono ?_; rintro e w3 ⟨rfl, hg3⟩; have hw3 := grown_trans hw2 hg3))
  obtain ⟨a0, a1, a2⟩ := h.grown hw3 hg
  have hb := blk_grown hc hw3
  obtain ⟨d0, e0, d2, e2, hE1, hE2, hE3⟩ := hunt_stores hb
  have d3 : w3.cell? { block := c, off := 2 } = some (Value.int IntKind.i64 0) := cell?_blk hb 2
  have e3 : w3.frozen? { block := c, off := 2 } = false := by rw [frozen?_blk hb]; simp
  clear hb a0 a1 hw2 hg2 hg3 h hg1 hE1 d2 e2
  go_region
  go_wp2
  go_ret2
  refine ⟨rfl, ⟨hE2.os.trans hw3.os, hE2.tape.trans hw3.tape, hE2.output.trans hw3.output, Nat.le_trans hw3.size hE2.size, fun k hk hn => (hE2.block k (Nat.lt_of_lt_of_le hk hw3.size) hn).trans (hw3.block k hk (by simp))⟩, hE3⟩

end Go.Sx

namespace Go.Sx
open Go Go.Proofs

theorem info301 : (Tryd.prog.info? 301).map (fun i => (i.zero, i.size, i.bytes)) = some (some (.agg #[.int .u8 0, .int .u8 0, .int .i64 0]), 3, 16) := by kernel_rfl

theorem make302 (w : World) : (Instr.makeSlice 302 (.int .i64 1) (.int .i64 1)).run Tryd.prog w = .ok (.slice (some ⟨w.heap.size, 0, none⟩) 1 1) (w.alloc (.cells #[.int .u8 0, .int .u8 0, .int .i64 0] 301)) := by
  obtain ⟨i301, hi, hy0, hy1, hy2⟩ := info_parts info301
  have := run_makeSlice (P := Tryd.prog) w 302 301 i301 (.agg #[.int .u8 0, .int .u8 0, .int .i64 0]) Tryd.underlying302 hi hy0 .i64 .i64 1 1 (by omega) (by omega) (by rw [hy1]; omega) (by rw [hy2]; omega) (by omega)
  rw [hy1] at this
  have e : madeCells (Value.agg #[.int .u8 0, .int .u8 0, .int .i64 0]).cells (Int.toNat 1 * 3) = #[.int .u8 0, .int .u8 0, .int .i64 0] := by
    apply Array.ext_getElem?
    intro i
    simp only [madeCells, Array.getElem?_map]
    match i with
    | 0 => rfl
    | 1 => rfl
    | 2 => rfl
    | i + 3 => rw [Array.getElem?_range, if_neg (by simp)]; rfl
  rw [e] at this
  exact this

set_option maxRecDepth 100000 in
set_option maxHeartbeats 1600000 in
theorem ri191 (w : World) : Calls Tryd.prog 191 #[.int .u16 2, .int .u16 1, .int .i64 1] w fun e w' => e = .returned (.tuple #[.pointer (some ⟨w.heap.size + 1, 0, none⟩), .int .i64 0]) ∧ w' = (w.alloc (.cells #[.int .u8 0, .int .u8 0, .int .i64 0] 301)).alloc (.cells #[.int .u16 2, .int .u16 1, .slice (some ⟨w.heap.size, 0, none⟩) 1 1] 304) := by
  have hm := make302
  go_enter Tryd.func191, Tryd.ntmps191
  go_wp2
  go_ret2
  exact ⟨rfl, rfl⟩

end Go.Sx

namespace Go.Sx
open Go Go.Proofs Go.RowKit

theorem alloc2_get (w : World) (o o' : Obj) : ((w.alloc o).alloc o').drew.heap[w.heap.size + 1]? = some o' := by
  show ((w.heap.push o).push o')[w.heap.size + 1]? = _
  have : w.heap.size + 1 = (w.heap.push o).size := by simp
  rw [this, Array.getElem?_push_size]

theorem info296 : (Tryd.prog.info? 296).map (fun i => (i.zero, i.size, i.bytes)) = some (some (.agg #[.int .u8 0, .int .i64 0, .string ⟨#[]⟩, .string ⟨#[]⟩, .int .u8 0]), 5, 56) := by kernel_rfl

def sideC (g m : Nat) (x : Int) (q : Value) : Array Value := #[.int .i64 9, .int .i64 9, .int .i64 9, .pointer (some ⟨g, 0, none⟩), .int .u16 2, .map (some m), .int .i64 x, q, .slice none 0 0]

set_option maxRecDepth 100000 in
set_option maxHeartbeats 1600000 in
theorem ri192 (w : World) (s g : Nat) (h : w.cell? ⟨s, 3, none⟩ = some (.pointer (some ⟨g, 0, none⟩))) : Calls Tryd.prog 192 #[.pointer (some ⟨s, 0, none⟩)] w fun e w' => e = .returned (.bool false) ∧ w' = w := by
  go_enter Tryd.func192, Tryd.ntmps192
  go_wp2
  go_ret
  exact ⟨rfl, rfl⟩

set_option maxRecDepth 100000 in
set_option maxHeartbeats 1600000 in
theorem ri125 (w : World) (s g m b : Nat) (h : w.cell? ⟨s, 3, none⟩ = some (.pointer (some ⟨g, 0, none⟩))) (h5 : w.cell? ⟨s, 5, none⟩ = some (.map (some m)))
    (hm : w.heap[m]? = some (.map #[{ key := .int .i64 1, val := .pointer (some ⟨b, 0, none⟩), born := 0 }] 1)) (hb : w.cell? ⟨b, 0, none⟩ = some (.int .u8 1)) :
    Calls Tryd.prog 125 #[.pointer (some ⟨s, 0, none⟩), .int .i64 1] w fun e w' => e = .returned (.int .u8 1) ∧ w' = w := by
  have h1 := ri192 w s g h
  have h2 := get283 w m _ hm
  clear hm
  go_enter Tryd.func125, Tryd.ntmps125
  go_wp2_with (go_at_call 192; refine h1.mono ?_; clear h1; rintro e w1 ⟨rfl, rfl⟩)
  go_ret
  exact ⟨rfl, rfl⟩

set_option maxRecDepth 100000 in
set_option maxHeartbeats 1600000 in
theorem ri126 (w : World) (s g : Nat) (h : w.cell? ⟨s, 3, none⟩ = some (.pointer (some ⟨g, 0, none⟩))) : Calls Tryd.prog 126 #[.pointer (some ⟨s, 0, none⟩)] w fun e w' => e = .returned (.pointer (some ⟨g, 0, none⟩)) ∧ w' = w := by
  have h1 := ri192 w s g h
  go_enter Tryd.func126, Tryd.ntmps126
  go_wp2_with (go_at_call 192; refine h1.mono ?_; clear h1; rintro e w1 ⟨rfl, rfl⟩)
  go_ret
  exact ⟨rfl, rfl⟩

theorem send_facts {w w1 : World} {o o' : Obj} {s g m gg cap : Nat} (hs : w.heap[s]? = some (.cells (sideC g m 1 (.slice none 0 0)) 287 (0, 0))) (hgrow : ((w.alloc o).alloc o').drew.grownBy w1 none) :
    w1.cell? ⟨s, 7, none⟩ = some (.slice none 0 0) ∧ w1.frozen? ⟨s, 7, none⟩ = false ∧ w.grownBy (w1.setCell { block := s, off := 7 } (Value.slice (some { block := gg, off := 0 }) 1 cap)) (some s) ∧ ∃ q, (w1.setCell { block := s, off := 7 } (Value.slice (some { block := gg, off := 0 }) 1 cap)).heap[s]? = some (.cells (sideC g m 1 q) 287 (0, 0)) := by
  have hgw : w.grownBy w1 none := grown_trans (grown_trans (grown_alloc w o) (grown_alloc _ o')) ⟨hgrow.os, hgrow.tape, hgrow.output, hgrow.size, hgrow.block⟩
  have hs1 := blk_grown hs hgw
  have hlt := lt_of_blk hs1
  refine ⟨cell?_blk hs1 7, by rw [frozen?_blk hs1]; simp, ?_⟩
  rw [setCell_blk hs1]
  refine ⟨⟨hgw.os, hgw.tape, hgw.output, by rw [setBlk_size]; exact hgw.size, fun k hk hn => ?_⟩, Value.slice (some { block := gg, off := 0 }) 1 cap, ?_⟩
  · rw [setBlk_get hlt, if_neg (fun e => hn (by rw [e]))]; exact hgw.block k hk (by simp)
  · rw [setBlk_get hlt, if_pos rfl]; rfl

set_option maxRecDepth 100000 in
set_option maxHeartbeats 1600000 in
theorem ri195 (w : World) (s g m : Nat) (hs : w.heap[s]? = some (.cells (sideC g m 1 (.slice none 0 0)) 287 (0, 0))) :
    Calls Tryd.prog 195 #[.pointer (some ⟨s, 0, none⟩), .agg #[.int .u8 1, .int .i64 0, .string ⟨#[49]⟩, .string ⟨#[50]⟩, .int .u8 0]] w fun e w' => e = .returned (.tuple #[]) ∧ w.grownBy w' (some s) ∧ ∃ q, w'.heap[s]? = some (.cells (sideC g m 1 q) 287 (0, 0)) := by
  obtain ⟨i296, hi, hy0, hy1, hy2⟩ := info_parts info296
  have h7 : w.cell? ⟨s, 7, none⟩ = some (.slice none 0 0) := cell?_blk hs 7
  have f7 : w.frozen? ⟨s, 7, none⟩ = false := by rw [frozen?_blk hs]; simp
  have hlt := lt_of_blk hs
  go_enter Tryd.func195, Tryd.ntmps195
  go_wp2
  go_region_law
    ((refine step_append_lies _ (by rfl) _ _ _ (by rfl) 0 296 i296 _ 5 56 (by kernel_rfl) hi hy0 hy1 hy2 rfl (by omega) (.slice none 0 0) 0 [] (by rfl) ⟨rfl, .inl ⟨rfl, rfl⟩⟩
        ⟨w.heap.size + 1, 0, none⟩ 1 1 [.int .u8 1, .int .i64 0, .string ⟨#[49]⟩, .string ⟨#[50]⟩, .int .u8 0] (by rfl) (by rfl) (World.news_of_block (cs := #[.int .u8 1, .int .i64 0, .string ⟨#[49]⟩, .string ⟨#[50]⟩, .int .u8 0]) (t := 296) (fr := (0, 0)) (alloc2_get _ _ _)) (by simp [Value.oneCell'])
        (by omega) (by unfold maxLen; omega) (by omega) (by simp) (w.heap.size + 2) (by simp) ?_; intro gg cap w1 hown1 hgrow hat1 hlt1
      have hE := send_facts (gg := gg) (cap := cap) hs hgrow
      clear hgrow hown1 hat1 hlt1
      obtain ⟨hc1, hf1, hE⟩ := hE))
  all_goals
   go_end0
   exact ⟨rfl, hE⟩

end Go.Sx

namespace Go.Sx
open Go Go.Proofs Go.RowKit

theorem info5 : (Tryd.prog.info? 5).map (fun i => (i.zero, i.size, i.bytes)) = some (some (.int .u8 0), 1, 1) := by kernel_rfl

theorem make46 (w : World) : (Instr.makeSlice 46 (.int .i64 1) (.int .i64 1)).run Tryd.prog w = .ok (.slice (some ⟨w.heap.size, 0, none⟩) 1 1) (w.alloc (.cells #[.int .u8 0] 5)) := by
  obtain ⟨i5, hi, hy0, hy1, hy2⟩ := info_parts info5
  have := run_makeSlice (P := Tryd.prog) w 46 5 i5 (.int .u8 0) (by kernel_rfl) hi hy0 .i64 .i64 1 1 (by omega) (by omega) (by rw [hy1]; omega) (by rw [hy2]; omega) (by omega)
  rw [hy1] at this
  have e : madeCells (Value.int .u8 0).cells (Int.toNat 1 * 1) = #[.int .u8 0] := by
    apply Array.ext_getElem?
    intro i
    simp only [madeCells, Array.getElem?_map]
    match i with
    | 0 => rfl
    | i + 1 => rw [Array.getElem?_range, if_neg (by simp)]; rfl
  rw [e] at this
  exact this

theorem conv46 (w : World) (b : Nat) (h : w.heap[b]? = some (.cells #[.int .u8 111] 5 (0, 0))) : (convert 46 9 (.slice (some ⟨b, 0, none⟩) 1 1)).run Tryd.prog w = .ok (.string ⟨#[111]⟩) w :=
  run_convert_bytes_back (P := Tryd.prog) w 46 9 5 ⟨b, 0, none⟩ 1 [111] (by kernel_rfl) (by kernel_rfl) (by kernel_rfl) (fun j hj => by
    have hj0 : j = 0 := by simp at hj; omega
    subst hj0
    rw [show (⟨b, 0, none⟩ : Addr).add 0 = ⟨b, 0, none⟩ from rfl, cell?_blk h]
    rfl)

set_option maxRecDepth 100000 in
set_option maxHeartbeats 1600000 in
theorem ri127 (w : World) (g c : Nat) (h : GrpAt w g c) (h0 : w.cell? ⟨c, 0, none⟩ = some (.int .u8 1)) (h1 : w.cell? ⟨c, 1, none⟩ = some (.int .u8 0)) (h2 : w.cell? ⟨c, 2, none⟩ = some (.int .i64 1)) :
    Calls Tryd.prog 127 #[.pointer (some ⟨g, 0, none⟩)] w fun e w' => e = .returned (.string ⟨#[111]⟩) ∧ w.grownBy w' none := by
  have hs := ri196 w g c h
  obtain ⟨a0, a1, a2⟩ := h
  have hm := make46
  have lg := World.block_lt_of_cell? w _ a0
  have lc := World.block_lt_of_cell? w _ h0
  have hx : ∀ h, ((⟨#[45, 111, 105]⟩ : ByteArray)[1]'h).toNat = 111 := fun _ => rfl
  have hb : ∀ o', ((w.alloc (Obj.cells #[Value.int IntKind.u8 111] 5)).alloc o').heap[w.heap.size]? = some (.cells #[.int .u8 111] 5 (0, 0)) := fun o' => by
    rw [alloc_get, if_neg (by show _ ≠ (w.heap.push _).size; simp), alloc_get, if_pos rfl]
  have hv := conv46 _ _ (hb (Obj.cells #[Value.int IntKind.u8 1, Value.int IntKind.u8 0, Value.int IntKind.i64 1] 301))
  clear hb
  go_enter Tryd.func127, Tryd.ntmps127
  go_wp2_with (go_at_call 196; refine hs.mono ?_; clear hs; rintro e w1 ⟨rfl, rfl⟩)
  refine wp_loop_rounds 3 ?_
  rw [rounds_succ]
  go_wp2
  rw [rounds_succ]
  go_wp2
  go_ret
  exact ⟨rfl, grown_trans (grown_alloc _ _) (grown_alloc _ _)⟩

end Go.Sx

namespace Go.Sx
open Go Go.Proofs Go.RowKit

structure RW (w0 w : World) (c g m s : Nat) (C : Array Value) (es : Array MapEntry) (k : Nat) (x : Int) (q : Value) : Prop where
  gr : w0.grownBy w none
  lc : w0.heap.size ≤ c
  cg : c < g
  gm : g < m
  ms : m < s
  hc : w.heap[c]? = some (.cells C 301 (0, 0))
  hg : w.heap[g]? = some (.cells #[.int .u16 2, .int .u16 1, .slice (some ⟨c, 0, none⟩) 1 1] 304 (0, 0))
  hm : w.heap[m]? = some (.map es k)
  hs : w.heap[s]? = some (.cells (sideC g m x q) 287 (0, 0))

theorem RW.grown {w0 w w' : World} {c g m s : Nat} {C : Array Value} {es : Array MapEntry} {k : Nat} {x : Int} {q : Value} (h : RW w0 w c g m s C es k x q) (hg : w.grownBy w' none) : RW w0 w' c g m s C es k x q :=
  ⟨grown_trans h.gr hg, h.lc, h.cg, h.gm, h.ms, blk_grown h.hc hg, blk_grown h.hg hg, blk_grown h.hm hg, blk_grown h.hs hg⟩

theorem RW.grp {w0 w : World} {c g m s : Nat} {C : Array Value} {es : Array MapEntry} {k : Nat} {x : Int} {q : Value} (h : RW w0 w c g m s C es k x q) : GrpAt w g c :=
  ⟨cell?_blk h.hg 0, cell?_blk h.hg 1, cell?_blk h.hg 2⟩

theorem RW.side {w0 w : World} {c g m s : Nat} {C : Array Value} {es : Array MapEntry} {k : Nat} {x : Int} {q : Value} (h : RW w0 w c g m s C es k x q) :
    w.cell? ⟨s, 3, none⟩ = some (.pointer (some ⟨g, 0, none⟩)) ∧ w.cell? ⟨s, 5, none⟩ = some (.map (some m)) ∧ w.cell? ⟨s, 6, none⟩ = some (.int .i64 x) ∧ w.frozen? ⟨s, 6, none⟩ = false :=
  ⟨cell?_blk h.hs 3, cell?_blk h.hs 5, cell?_blk h.hs 6, by rw [frozen?_blk h.hs]; simp⟩

/-- one block, one of the rings', was written -/
theorem gr_some {w0 w w' : World} {b : Nat} (h : w0.grownBy w none) (hg : w.grownBy w' (some b)) (hb : w0.heap.size ≤ b) : w0.grownBy w' none :=
  ⟨hg.os.trans h.os, hg.tape.trans h.tape, hg.output.trans h.output, Nat.le_trans h.size hg.size, fun k hk hn => (hg.block k (Nat.lt_of_lt_of_le hk h.size) (fun e => by cases e; omega)).trans (h.block k hk hn)⟩

theorem blk_some {w w' : World} {b c : Nat} {o : Obj} (h : w.heap[c]? = some o) (hg : w.grownBy w' (some b)) (hne : c ≠ b) : w'.heap[c]? = some o := by
  rw [hg.block c (lt_of_blk h) (fun e => hne (by cases e; rfl))]; exact h

theorem RW.hunt {w0 w w' : World} {c g m s : Nat} {C C' : Array Value} {es : Array MapEntry} {k : Nat} {x : Int} {q : Value} (h : RW w0 w c g m s C es k x q) (hg : w.grownBy w' (some c)) (hc : w'.heap[c]? = some (.cells C' 301 (0, 0))) : RW w0 w' c g m s C' es k x q := by
  have := h.cg; have := h.gm; have := h.ms
  exact ⟨gr_some h.gr hg h.lc, h.lc, h.cg, h.gm, h.ms, hc, blk_some h.hg hg (by omega), blk_some h.hm hg (by omega), blk_some h.hs hg (by omega)⟩

theorem RW.sent {w0 w w' : World} {c g m s : Nat} {C : Array Value} {es : Array MapEntry} {k : Nat} {x x' : Int} {q q' : Value} (h : RW w0 w c g m s C es k x q) (hg : w.grownBy w' (some s)) (hs : w'.heap[s]? = some (.cells (sideC g m x' q') 287 (0, 0))) : RW w0 w' c g m s C es k x' q' := by
  have := h.cg; have := h.gm; have := h.ms; have := h.lc
  exact ⟨gr_some h.gr hg (by omega), h.lc, h.cg, h.gm, h.ms, blk_some h.hc hg (by omega), blk_some h.hg hg (by omega), blk_some h.hm hg (by omega), hs⟩

theorem grown_setBlk {w : World} {b : Nat} (o : Obj) (hlt : b < w.heap.size) : w.grownBy (setBlk w b o) (some b) :=
  ⟨rfl, rfl, rfl, by rw [setBlk_size]; exact Nat.le_refl _, fun k hk hn => by rw [setBlk_get hlt, if_neg (fun e => hn (by rw [e]))]⟩

theorem RW.mapped {w0 w : World} {c g m s : Nat} {C : Array Value} {es es' : Array MapEntry} {k k' : Nat} {x : Int} {q : Value} (h : RW w0 w c g m s C es k x q) : RW w0 (setBlk w m (.map es' k')) c g m s C es' k' x q := by
  have := h.cg; have := h.gm; have := h.ms; have := h.lc
  have hlt := lt_of_blk h.hm
  have hg := grown_setBlk (w := w) (Obj.map es' k') hlt
  exact ⟨gr_some h.gr hg (by omega), h.lc, h.cg, h.gm, h.ms, blk_some h.hc hg (by omega), blk_some h.hg hg (by omega), by rw [setBlk_get hlt, if_pos rfl], blk_some h.hs hg (by omega)⟩

theorem RW.count {w0 w : World} {c g m s : Nat} {C : Array Value} {es : Array MapEntry} {k : Nat} {q : Value} (h : RW w0 w c g m s C es k 0 q) : RW w0 (w.setCell ⟨s, 6, none⟩ (.int .i64 1)) c g m s C es k 1 q := by
  rw [setCell_blk h.hs]
  exact h.sent (grown_setBlk _ (lt_of_blk h.hs)) (by rw [setBlk_get (lt_of_blk h.hs), if_pos rfl]; rfl)

set_option maxRecDepth 100000 in
set_option maxHeartbeats 1600000 in
theorem ri123 (w : World) : Calls Tryd.prog 123 #[.int .u16 2, .int .u16 1, .int .i64 1, .agg #[.int .i64 9, .int .i64 9, .int .i64 9]] w fun e w' => ∃ c g m s, e = .returned (.tuple #[.pointer (some ⟨s, 0, none⟩), .int .i64 0]) ∧
    RW w w' c g m s #[.int .u8 0, .int .u8 0, .int .i64 0] #[] 0 0 (.slice none 0 0) := by
  have hm := mk283
  go_enter Tryd.func123, Tryd.ntmps123
  go_wp2_with (go_at_call 191; refine (ri191 _).mono ?_; rintro e w1 ⟨rfl, rfl⟩)
  go_ret2
  refine ⟨w.heap.size + 1, w.heap.size + 1 + 1, w.heap.size + 1 + 1 + 1, w.heap.size + 1 + 1 + 1 + 1, rfl, ?_⟩
  refine ⟨grown_alloc' (grown_alloc' (grown_alloc' (grown_alloc' (grown_alloc _ _) _) _) _) _, by omega, by omega, by omega, by omega, ?_, ?_, ?_, ?_⟩
  all_goals
    simp only [alloc_get, alloc_size]
    repeat (first | rw [if_pos rfl] | rw [if_pos True.intro] | rw [if_neg (by omega)])
    try rfl

end Go.Sx

namespace Go.Sx
open Go Go.Proofs Go.RowKit

set_option maxRecDepth 100000 in
set_option maxHeartbeats 1600000 in
theorem ri124 (w0 w : World) (c g m s : Nat) (h : RW w0 w c g m s #[.int .u8 0, .int .u8 0, .int .i64 0] #[] 0 0 (.slice none 0 0)) :
    Calls Tryd.prog 124 #[.pointer (some ⟨s, 0, none⟩), .string ⟨#[49]⟩, .string ⟨#[50]⟩] w fun e w' => e = .returned (.tuple #[.int .i64 1, .int .i64 0]) ∧
      ∃ b q, RW w0 w' c g m s #[.int .u8 1, .int .u8 0, .int .i64 1] #[{ key := .int .i64 1, val := .pointer (some ⟨b, 0, none⟩), born := 0 }] 1 1 q ∧ w'.cell? ⟨b, 0, none⟩ = some (.int .u8 1) := by
  go_enter Tryd.func124, Tryd.ntmps124
  go_wp2_with (first
    | (go_at_call 192; refine (ri192 _ s g h.side.1).mono ?_; rintro e w1 ⟨rfl, rfl⟩)
    | (go_at_call 193; refine (ri193 _ 49 (.inl rfl)).mono ?_; rintro e w2 ⟨rfl, hg1⟩; have h2 := h.grown hg1; clear hg1 h)
    | (go_at_call 193; refine (ri193 _ 50 (.inr rfl)).mono ?_; rintro e w3 ⟨rfl, hg2⟩; have h3 := h2.grown hg2; clear hg2 h2))
  obtain ⟨k3, k5, k6, f6⟩ := h3.side
  have j3 : w3.drew.cell? { block := s, off := 3 } = some (Value.pointer (some { block := g, off := 0 })) := k3
  have j6 : w3.drew.cell? { block := s, off := 6 } = some (Value.int IntKind.i64 0) := k6
  have hu := ri194 w3.drew g c (by have := h3.cg; omega) (lt_of_blk h3.hg) (⟨h3.grp.c0, h3.grp.c1, h3.grp.c2⟩) h3.hc
  go_region_held3 (fun w' => w'.cell? ⟨s, 3, none⟩ = some (Value.pointer (some { block := g, off := 0 })) ∧ w'.cell? ⟨s, 6, none⟩ = some (Value.int IntKind.i64 0)) (go_keep) (first | (go_at_call 194; refine hu.mono ?_; rintro e w4 ⟨rfl, hg4, hc4⟩; have h4 := h3.hunt (w' := w4) ⟨hg4.os, hg4.tape, hg4.output, hg4.size, hg4.block⟩ hc4; clear h3 k3 k5 k6 f6 j3 j6 hu hg4 hc4; obtain ⟨k3, k5, k6, f6⟩ := h4.side))
  go_wp2
  have h5 := h4.count
  clear h4 k3 k5 k6 f6
  generalize w4.setCell { block := s, off := 6 } (Value.int IntKind.i64 1) = w5 at h5 ⊢
  obtain ⟨k3, k5, k6, f6⟩ := h5.side
  have j5 : w5.drew.cell? { block := s, off := 5 } = some (Value.map (some m)) := k5
  have j6 : w5.drew.cell? { block := s, off := 6 } = some (Value.int IntKind.i64 1) := k6
  have h6 : RW w0 (w5.alloc (Obj.cells #[Value.int IntKind.u8 1, Value.int IntKind.i64 0, Value.int IntKind.i64 0, Value.string { data := #[49] }, Value.string { data := #[50] }, Value.int IntKind.u8 0] 292)).drew c g m s #[.int .u8 1, .int .u8 0, .int .i64 1] #[] 0 1 (.slice none 0 0) := h5.grown (grown_drew (grown_alloc _ _))
  have hput := put283 _ m (Value.pointer (some { block := w5.heap.size, off := 0 })) h6.hm
  have h7 := h6.mapped (es' := #[{ key := .int .i64 1, val := .pointer (some ⟨w5.heap.size, 0, none⟩), born := 0 }]) (k' := 1)
  have hb6 : (w5.alloc (Obj.cells #[Value.int IntKind.u8 1, Value.int IntKind.i64 0, Value.int IntKind.i64 0, Value.string { data := #[49] }, Value.string { data := #[50] }, Value.int IntKind.u8 0] 292)).drew.heap[w5.heap.size]? = some (Obj.cells #[Value.int IntKind.u8 1, Value.int IntKind.i64 0, Value.int IntKind.i64 0, Value.string { data := #[49] }, Value.string { data := #[50] }, Value.int IntKind.u8 0] 292) := by
    show (w5.alloc _).heap[w5.heap.size]? = _
    rw [alloc_get, if_pos rfl]
  have hbm : w5.heap.size ≠ m := fun e => by have := lt_of_blk h5.hm; omega
  have hb7 : (setBlk (w5.alloc (Obj.cells #[Value.int IntKind.u8 1, Value.int IntKind.i64 0, Value.int IntKind.i64 0, Value.string { data := #[49] }, Value.string { data := #[50] }, Value.int IntKind.u8 0] 292)).drew m (.map #[{ key := .int .i64 1, val := .pointer (some ⟨w5.heap.size, 0, none⟩), born := 0 }] 1)).heap[w5.heap.size]? = some (Obj.cells #[Value.int IntKind.u8 1, Value.int IntKind.i64 0, Value.int IntKind.i64 0, Value.string { data := #[49] }, Value.string { data := #[50] }, Value.int IntKind.u8 0] 292) := by
    rw [setBlk_get (lt_of_blk h6.hm), if_neg hbm]
    exact hb6
  obtain ⟨i3, i5, i6, _⟩ := h7.side
  clear hbm hb6 h6 f6 i3
  generalize hW : setBlk (w5.alloc (Obj.cells #[Value.int IntKind.u8 1, Value.int IntKind.i64 0, Value.int IntKind.i64 0, Value.string { data := #[49] }, Value.string { data := #[50] }, Value.int IntKind.u8 0] 292)).drew m (.map #[{ key := .int .i64 1, val := .pointer (some ⟨w5.heap.size, 0, none⟩), born := 0 }] 1) = w6 at *
  clear hW
  have hb8 : w6.cell? ⟨w5.heap.size, 0, none⟩ = some (.int .u8 1) := cell?_blk hb7 0
  have h8 : Hid _ := And.intro h7 (And.intro hb7 (lt_of_blk h5.hs))
  clear h7 hb7 hb8 h5
  go_region_held3 (fun w' => w'.cell? ⟨s, 5, none⟩ = some (Value.map (some m)) ∧ w'.cell? ⟨s, 6, none⟩ = some (Value.int IntKind.i64 1)) (go_keep) (fail)
  obtain ⟨h7, hb7, hlt5⟩ := h8.out
  clear hput h8
  go_wp2_with (first
    | (go_at_call 195; refine (ri195 _ s g m h7.hs).mono ?_; rintro e w7 ⟨rfl, hg7, q, hs7⟩; have h9 := h7.sent hg7 hs7; have hb9 := blk_some hb7 hg7 (by omega); obtain ⟨_, _, l6, _⟩ := h9.side))
  go_ret2
  exact ⟨rfl, _, q, h9, cell?_blk hb9 0⟩

set_option maxRecDepth 100000 in
set_option maxHeartbeats 1600000 in
theorem rings18 (w : World) : Calls Tryd.prog 18 #[] w fun e w' => e = .returned (.bool true) ∧ w.grownBy w' none := by
  go_enter Tryd.func18, Tryd.ntmps18
  go_wp2_with (first
    | (go_at_call 123; refine (ri123 _).mono ?_; rintro e w2 ⟨c, g, m, s, rfl, h2⟩)
    | (go_at_call 124; refine (ri124 _ _ c g m s h2).mono ?_; rintro e w3 ⟨rfl, b, q, h3, hb⟩)
    | (go_at_call 125; refine (ri125 _ s g m b h3.side.1 h3.side.2.1 h3.hm hb).mono ?_; rintro e w4 ⟨rfl, rfl⟩)
    | (go_at_call 126; refine (ri126 _ s g h3.side.1).mono ?_; rintro e w5 ⟨rfl, rfl⟩)
    | (go_at_call 127; refine (ri127 _ g c h3.grp (cell?_blk h3.hc 0) (cell?_blk h3.hc 1) (cell?_blk h3.hc 2)).mono ?_; rintro e w6 ⟨rfl, hg6⟩))
  go_ret
  exact ⟨rfl, grown_trans (grown_trans (grown_alloc _ _) h3.gr) hg6⟩

end Go.Sx
