/- Part T of a proof: helper lemmas; no conditions. -/
import Derived.Test.YtnnaehcmchndmaaGreatDoorI
import Derived.Test.YtnnaehcmchndmaaGreatDoorK
import Derived.Test.YtnnaehcmchndmaaGreatDoorCards
import Derived.Test.YtnnaehcmchndmaaGreatDoorTie
import Derived.KernelRfl
import Derived.SevenTiedAt
import Derived.ProofKit
import Derived.Lay
import Derived.LaidOnce
import Derived.Shelf.Lay

set_option linter.unusedSimpArgs false
set_option linter.unusedVariables false

namespace Go.Sx
open Go Go.Proofs
open Go.ChangeShapes Go.WideShapes Go.ChangeAt Go.RowKit
open Go.Proofs.YtnnaehcmchndmaaGreatDoor

theorem keptBut_of_grown {w w' : World} (h : w.grownBy w' none) (may : MemPlace → Prop) : w.keptBut w' may := by
  refine ⟨h.os, h.output, fun i hi => ?_⟩
  rw [h.block i hi (by simp)]
  have : ∃ o, w.heap[i]? = some o := ⟨w.heap[i], Array.getElem?_eq_getElem hi⟩
  obtain ⟨o, ho⟩ := this
  rw [ho]
  cases o with
  | cells c t fr => exact ⟨rfl, rfl, rfl, fun _ _ => rfl⟩
  | map es clock => exact .inr ⟨rfl, rfl⟩
  | _ => rfl

theorem seat_own : ownKnob Tryz.prog.godebug = none := by kernel_rfl
theorem seat_laidOut : laidOutB Tryz.prog = true := by kernel_rfl
theorem seat_maps : mapsRowed Tryz.prog = true := by kernel_rfl
theorem seat_rows : sliceCellsB Tryz.prog = true := by kernel_rfl

theorem seat_sz {t e : TypeId} (ht : t < Tryz.prog.types.size) (hu : Tryz.prog.underlying t = some (.slice e)) : 0 < Tryz.prog.cellsOf e := sliceCells_ok seat_rows ht hu

theorem seat_jf1 : (laidOutB Tryz.prog) = true := by kernel_rfl
theorem seat_jf2 : (mapsRowed Tryz.prog) = true := by kernel_rfl
theorem seat_jf6 : ((Tryz.prog.stops == [])) = true := by kernel_rfl
theorem seat_jf8 : ((Tryz.prog.stopKnobs == [])) = true := by kernel_rfl
theorem seat_jf24 : (Tryz.prog.stopsHeard) = true := by kernel_rfl
theorem seat_jf25 : (Tryz.prog.mayEnter) = true := by kernel_rfl

theorem band {a b : Bool} (h : a = true) (k : b = true) : (a && b) = true := by rw [h, k]; rfl

end Go.Sx
