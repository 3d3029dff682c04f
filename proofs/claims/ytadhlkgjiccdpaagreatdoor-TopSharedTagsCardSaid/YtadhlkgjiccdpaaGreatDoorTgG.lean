/- Part TgG of a proof: helper lemmas; no conditions. -/
import Derived.Test.YtadhlkgjiccdpaaGreatDoorTgD
import Derived.Test.YtadhlkgjiccdpaaGreatDoorTgQ
import Derived.Test.YtadhlkgjiccdpaaGreatDoorTgM
import Derived.Defers
import Derived.Recover
import Derived.Deep.RegionLaw

set_option linter.unusedSimpArgs false
set_option linter.unusedVariables false

namespace Go.Sx
open Go Go.Proofs

set_option maxRecDepth 100000 in
set_option maxHeartbeats 1600000 in
theorem first1_idle {E N R : Nat} {w : World} : CallsD Tryz.prog 127 #[.pointer (some ⟨E, 0, none⟩), .pointer (some ⟨N, 0, none⟩), .pointer (some ⟨R, 0, none⟩)] .returning w fun e u' w' => e = .returned (.tuple #[]) ∧ u' = .returning ∧ w' = w := by
  refine callsD_of_wpS Tryz.func127 rfl fun c₀ cs hu => ?_
  apply wpS_seq
  apply wpS_region
  simp [wpOpsS, go_sem, recoverD, hu, Tryz.ntmps127, Exit.thenS]
  refine wpS_of_wp ?_
  go_wp2
  cases c₀
  simp_all [bodyPostS, results, Tryz.results127]

structure Wrote (E N R : Nat) (c : Array Value) (n r : Int) (w w' : World) : Prop where
  os : w'.os = w.os
  tape : w'.tape = w.tape
  output : w'.output = w.output
  size : w'.heap.size = w.heap.size
  same : ∀ b, b ≠ E → b ≠ N → b ≠ R → w'.heap[b]? = w.heap[b]?
  atE : w'.heap[E]? = some (.cells c 61 (0, 0))
  atN : w'.heap[N]? = some (.cells #[.int .i64 n] 3 (0, 0))
  atR : w'.heap[R]? = some (.cells #[.int .i64 r] 36 (0, 0))

theorem wrote_mk {E N R : Nat} {w : World} {n0 r0 n r : Int} {z0 z1 z2 z3 z4 a0 a1 a2 a3 a4 : Value} (hE : w.heap[E]? = some (.cells #[z0, z1, z2, z3, z4] 61 (0, 0))) (hN : w.heap[N]? = some (.cells #[.int .i64 n0] 3 (0, 0))) (hR : w.heap[R]? = some (.cells #[.int .i64 r0] 36 (0, 0))) (hEN : E ≠ N) (hER : E ≠ R) (hNR : N ≠ R) :
    Wrote E N R #[a0, a1, a2, a3, a4] n r w ((((((((w.setCell ⟨E, 0, none⟩ a0).setCell ⟨E, 1, none⟩ a1).setCell ⟨E, 2, none⟩ a2).setCell ⟨E, 3, none⟩ a3).setCell ⟨E, 4, none⟩ a4)).setCell ⟨N, 0, none⟩ (.int .i64 n)).setCell ⟨R, 0, none⟩ (.int .i64 r)) := by
  rw [set5 hE]
  have hlE := lt_of_blk hE
  have hE1 : (setBlk w E (.cells #[a0, a1, a2, a3, a4] 61 (0, 0))).heap[E]? = some (.cells #[a0, a1, a2, a3, a4] 61 (0, 0)) := by rw [setBlk_get hlE, if_pos rfl]
  have hN1 : (setBlk w E (.cells #[a0, a1, a2, a3, a4] 61 (0, 0))).heap[N]? = some (.cells #[.int .i64 n0] 3 (0, 0)) := by rw [setBlk_get hlE, if_neg (fun e => hEN e.symm)]; exact hN
  have hR1 : (setBlk w E (.cells #[a0, a1, a2, a3, a4] 61 (0, 0))).heap[R]? = some (.cells #[.int .i64 r0] 36 (0, 0)) := by rw [setBlk_get hlE, if_neg (fun e => hER e.symm)]; exact hR
  have hs1 : (setBlk w E (.cells #[a0, a1, a2, a3, a4] 61 (0, 0))).heap.size = w.heap.size := setBlk_size ..
  have hm1 : ∀ b, b ≠ E → (setBlk w E (.cells #[a0, a1, a2, a3, a4] 61 (0, 0))).heap[b]? = w.heap[b]? := fun b h => by rw [setBlk_get hlE, if_neg h]
  have ho : (setBlk w E (.cells #[a0, a1, a2, a3, a4] 61 (0, 0))).os = w.os ∧ (setBlk w E (.cells #[a0, a1, a2, a3, a4] 61 (0, 0))).tape = w.tape ∧ (setBlk w E (.cells #[a0, a1, a2, a3, a4] 61 (0, 0))).output = w.output := ⟨rfl, rfl, rfl⟩
  generalize setBlk w E (.cells #[a0, a1, a2, a3, a4] 61 (0, 0)) = w1 at *
  have hlN := lt_of_blk hN1
  have hlR := lt_of_blk hR1
  rw [setCell_blk hN1]
  have hR2 : (setBlk w1 N (.cells (#[Value.int .i64 n0].setIfInBounds 0 (.int .i64 n)) 3 (0, 0))).heap[R]? = some (.cells #[.int .i64 r0] 36 (0, 0)) := by rw [setBlk_get hlN, if_neg (fun e => hNR e.symm)]; exact hR1
  rw [setCell_blk hR2]
  have hl2 := lt_of_blk hR2
  refine ⟨ho.1, ho.2.1, ho.2.2, by rw [setBlk_size, setBlk_size]; exact hs1, fun b e1 e2 e3 => ?_, ?_, ?_, ?_⟩
  · rw [setBlk_get hl2, if_neg e3, setBlk_get hlN, if_neg e2]; exact hm1 b e1
  · rw [setBlk_get hl2, if_neg hER, setBlk_get hlN, if_neg hEN]; exact hE1
  · rw [setBlk_get hl2, if_neg hNR, setBlk_get hlN, if_pos rfl]; rfl
  · rw [setBlk_get hl2, if_pos rfl]; rfl

theorem und33 : Tryz.prog.underlying 36 = some (.int .i64) := by kernel_rfl

set_option maxRecDepth 100000 in
set_option maxHeartbeats 1600000 in
theorem first1_panicking {E N R : Nat} {w : World} {x n0 r0 : Int} {z0 z1 z2 z3 z4 : Value} {older : List PanicEntry} (hE : w.heap[E]? = some (.cells #[z0, z1, z2, z3, z4] 61 (0, 0))) (hN : w.heap[N]? = some (.cells #[.int .i64 n0] 3 (0, 0))) (hR : w.heap[R]? = some (.cells #[.int .i64 r0] 36 (0, 0))) (hEN : E ≠ N) (hER : E ≠ R) (hNR : N ≠ R) : CallsD Tryz.prog 127 #[.pointer (some ⟨E, 0, none⟩), .pointer (some ⟨N, 0, none⟩), .pointer (some ⟨R, 0, none⟩)] (.panicking ({ v := .iface 36 (.int .i64 x), recovered := false } :: older)) w fun e u' w' =>
    e = .returned (.tuple #[]) ∧ u' = .panicking ({ v := .iface 36 (.int .i64 x), recovered := true } :: older) ∧ Wrote E N R #[.int .u8 0, .int .u32 0, .bool false, .slice none 0 0, .slice none 0 0] 0 x w w' := by
  have f : ∀ {b : Nat} {cs : Array Value} {T : TypeId} (h : w.heap[b]? = some (.cells cs T (0, 0))) (i : Nat), w.frozen? ⟨b, i, none⟩ = false := fun h i => by rw [frozen?_blk h]; simp
  have m0 : w.cell? ⟨E, 0, none⟩ = some z0 := by rw [cell?_blk hE]; rfl
  have m1 : w.cell? ⟨E, 1, none⟩ = some z1 := by rw [cell?_blk hE]; rfl
  have m2 : w.cell? ⟨E, 2, none⟩ = some z2 := by rw [cell?_blk hE]; rfl
  have m3 : w.cell? ⟨E, 3, none⟩ = some z3 := by rw [cell?_blk hE]; rfl
  have m4 : w.cell? ⟨E, 4, none⟩ = some z4 := by rw [cell?_blk hE]; rfl
  have f0 := f hE 0
  have f1 := f hE 1
  have f2 := f hE 2
  have f3 := f hE 3
  have f4 := f hE 4
  have m5 : w.cell? ⟨N, 0, none⟩ = some (.int .i64 n0) := by rw [cell?_blk hN]; rfl
  have m6 : w.cell? ⟨R, 0, none⟩ = some (.int .i64 r0) := by rw [cell?_blk hR]; rfl
  have f5 := f hN 0
  have f6 := f hR 0
  clear f
  refine callsD_of_wpS Tryz.func127 rfl fun c₀ cs hu => ?_
  apply wpS_seq
  apply wpS_region
  simp [wpOpsS, go_sem, recoverD, hu, Tryz.ntmps127, Exit.thenS]
  refine wpS_of_wp ?_
  have ea : ((#[.pointer (some ⟨E, 0, none⟩), .pointer (some ⟨N, 0, none⟩), .pointer (some ⟨R, 0, none⟩)] : Array Value) ++ ((Array.replicate 16 undef).setIfInBounds 3 (Value.iface 36 (.int .i64 x))).setIfInBounds 0 (Value.iface 36 (.int .i64 x))) =
      #[.pointer (some ⟨E, 0, none⟩), .pointer (some ⟨N, 0, none⟩), .pointer (some ⟨R, 0, none⟩), .iface 36 (.int .i64 x), undef, undef, .iface 36 (.int .i64 x), undef, undef, undef, undef, undef, undef, undef, undef, undef, undef, undef, undef] := rfl
  rw [ea]
  clear ea
  have hta : ∀ w, (Instr.typeAssert (.iface 36 (.int .i64 x)) 20 36 true).run Tryz.prog w = .ok (.tuple #[.int .i64 x, .bool true]) w := fun w => by
    simp [Instr.typeAssert, run_underlying und33, go_sem, Result.andThen]
  go_wp2_with fail
  exact ⟨rfl, _, rfl, .tuple #[], by simp [results, Tryz.results127], rfl, rfl, wrote_mk hE hN hR hEN hER hNR⟩

end Go.Sx
