/- Part T of a proof: helper lemmas; no conditions. -/
import Derived.Test.YtiecagflhhmfnaaDoorI
import Derived.Test.YtiecagflhhmfnaaDoorK
import Derived.Test.YtiecagflhhmfnaaDoorCards
import Derived.Test.YtiecagflhhmfnaaDoorTie
import Derived.KernelRfl
import Derived.SevenTiedAt
import Derived.ProofKit
import Derived.Lay
import Derived.LaidOnce
import Derived.Shelf.Lay

set_option linter.unusedSimpArgs false
set_option linter.unusedVariables false

namespace Go.Sx
open Go Go.Proofs
open Go.ChangeShapes Go.WideShapes Go.ChangeAt Go.RowKit
open Go.Proofs.YtiecagflhhmfnaaDoor

theorem keptBut_of_grown {w w' : World} (h : w.grownBy w' none) (may : MemPlace → Prop) : w.keptBut w' may := by
  refine ⟨h.os, h.output, fun i hi => ?_⟩
  rw [h.block i hi (by simp)]
  have : ∃ o, w.heap[i]? = some o := ⟨w.heap[i], Array.getElem?_eq_getElem hi⟩
  obtain ⟨o, ho⟩ := this
  rw [ho]
  cases o with
  | cells c t fr => exact ⟨rfl, rfl, rfl, fun _ _ => rfl⟩
  | map es clock => exact .inr ⟨rfl, rfl⟩
  | _ => rfl

theorem seat_own : ownKnob Tryd.prog.godebug = none := by kernel_rfl
theorem seat_laidOut : laidOutB Tryd.prog = true := by kernel_rfl
theorem seat_maps : mapsRowed Tryd.prog = true := by kernel_rfl
theorem seat_rows : sliceCellsB Tryd.prog = true := by kernel_rfl

theorem seat_sz {t e : TypeId} (ht : t < Tryd.prog.types.size) (hu : Tryd.prog.underlying t = some (.slice e)) : 0 < Tryd.prog.cellsOf e := sliceCells_ok seat_rows ht hu

theorem seat_jf1 : (laidOutB Tryd.prog) = true := by kernel_rfl
theorem seat_jf2 : (mapsRowed Tryd.prog) = true := by kernel_rfl
theorem seat_jf6 : ((Tryd.prog.stops == [])) = true := by kernel_rfl
theorem seat_jf8 : ((Tryd.prog.stopKnobs == [])) = true := by kernel_rfl
theorem seat_jf24 : (Tryd.prog.stopsHeard) = true := by kernel_rfl
theorem seat_jf25 : (Tryd.prog.mayEnter) = true := by kernel_rfl

theorem band {a b : Bool} (h : a = true) (k : b = true) : (a && b) = true := by rw [h, k]; rfl

end Go.Sx
