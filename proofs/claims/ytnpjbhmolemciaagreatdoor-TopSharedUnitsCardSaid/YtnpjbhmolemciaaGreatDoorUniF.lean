/- Part UniF of a proof: helper lemmas; no conditions. -/
import Derived.Test.YtnpjbhmolemciaaGreatDoorT
import Derived.Test.YtnpjbhmolemciaaGreatDoorProg
import Derived.WalkKit
import Derived.WalkSpells
import Derived.StillTactics
import Derived.OwnWalk
import Derived.Laws.Pointers
import Derived.Deep.RegionLaw
import Derived.Deep.AppendLies
import Derived.Deep.LoopGhost
import Derived.KernelRfl

set_option linter.unusedSimpArgs false
set_option linter.unusedVariables false

namespace Go.Sx
open Go Go.Proofs

open Go.ChangeShapes Go.WideShapes Go.ChangeAt Go.RowKit
open Go.Proofs.YtnpjbhmolemciaaGreatDoor

theorem jf0 : (Rows.topSharedUnitsRow.wf (OpenSpec.ofChange Rows.topSharedUnitsSpec)) = true := by kernel_rfl
theorem jf3 : (Tryz.f4.params.all (Tryz.prog.readableRec ·)) = true := by kernel_rfl
theorem jf4 : (namedTie Tryz.prog Rows.topSharedUnitsRow.named Rows.topSharedUnitsSpec.vars) = true := by kernel_rfl
theorem jf5 : ((Rows.topSharedUnitsRow.stops == [])) = true := by kernel_rfl
theorem jf7 : ((Rows.topSharedUnitsRow.knobs == [])) = true := by kernel_rfl
theorem jf9 : ((Rows.topSharedUnitsRow.inPlace == Tryz.prog.inPlace 4)) = true := by kernel_rfl
theorem jf10 : ((Rows.topSharedUnitsRow.unfollowed == Tryz.prog.unfollowed 4)) = true := by kernel_rfl
theorem jf11 : ((Rows.topSharedUnitsRow.recurses == Tryz.prog.recurses 4)) = true := by kernel_rfl
theorem jf12 : ((Rows.topSharedUnitsRow.named == Tryz.prog.varsNamed 4)) = true := by kernel_rfl
theorem jf13 : ((Rows.topSharedUnitsRow.maps == (Tryz.f4.params.toList ++ Rows.topSharedUnitsSpec.plain.varTypes Tryz.prog).any (Tryz.prog.mapsRec ·))) = true := by kernel_rfl
theorem jf14 : ((Rows.topSharedUnitsRow.ifaces == (Tryz.f4.params.toList ++ Rows.topSharedUnitsSpec.plain.varTypes Tryz.prog).any (Tryz.prog.ifacesRec ·))) = true := by kernel_rfl
theorem jf15 : ((Rows.topSharedUnitsRow.mapsOut == Tryz.prog.mapsAmong Tryz.f4.resultTypes.toList)) = true := by kernel_rfl
theorem jf16 : ((Rows.topSharedUnitsRow.loops == (Tryz.f4.params.toList ++ Rows.topSharedUnitsSpec.plain.varTypes Tryz.prog).any (Tryz.prog.loopsFrom ·))) = true := by kernel_rfl
theorem jf17 : ((Rows.topSharedUnitsRow.wideKeys == (Tryz.f4.params.toList ++ Rows.topSharedUnitsSpec.plain.varTypes Tryz.prog ++ Tryz.f4.resultTypes.toList).any (Tryz.prog.wideKeysFrom ·))) = true := by kernel_rfl
theorem jf18 : (Rows.topSharedUnitsSpec.vars.all (Tryz.prog.varReadable ·)) = true := by kernel_rfl
theorem jf19 : (Tryz.f4.resultTypes.all (fun t => Tryz.prog.readableRec t && decide (t < Tryz.prog.types.size))) = true := by kernel_rfl
theorem jf20 : ((Rows.topSharedUnitsRow.ifacesOut == Tryz.f4.resultTypes.toList.any (Tryz.prog.ifacesRec ·))) = true := by kernel_rfl
theorem jf21 : ((Rows.topSharedUnitsRow.loopsOut == Tryz.f4.resultTypes.toList.any (Tryz.prog.loopsFrom ·))) = true := by kernel_rfl
theorem jf22 : ((Rows.topSharedUnitsRow.plainKeys == Tryz.prog.plainKeys)) = true := by kernel_rfl
theorem jf23 : (Rows.topSharedUnitsRow.shortTexts.isNone) = true := by kernel_rfl
theorem jf26 : ((Rows.topSharedUnitsRow.lifted == Tryz.prog.liftsFinal)) = true := by kernel_rfl
theorem jf27 : ((Tryz.prog.make == some Rows.topSharedUnitsRow.make)) = true := by kernel_rfl
theorem jf28 : ((Rows.topSharedUnitsRow.kinds == (if Rows.topSharedUnitsRow.domain.isEmpty then [] else Tryz.f4.params.toList.map fun t => match Tryz.prog.underlying t with | some (.int k) => some k | _ => none))) = true := by kernel_rfl
theorem jf29 : ((Rows.topSharedUnitsRow.pinned == Rows.topSharedUnitsRow.pinnedBy)) = true := by kernel_rfl
theorem jf30 : ((Rows.topSharedUnitsRow.veiled == (Tryz.f4.params.toList ++ Rows.topSharedUnitsSpec.plain.varTypes Tryz.prog ++ Tryz.f4.resultTypes.toList).any (Tryz.prog.veiledRec ·))) = true := by kernel_rfl
theorem jf31 : (Rows.topSharedUnitsRow.veiledFits Tryz.prog Tryz.f4.params.toList (Tryz.f4.params.toList ++ Rows.topSharedUnitsSpec.plain.varTypes Tryz.prog ++ Tryz.f4.resultTypes.toList)) = true := by kernel_rfl

end Go.Sx
