/- Part TitF of a proof: helper lemmas; no conditions. -/
import Derived.Test.YtnnaehcmchndmaaGreatDoorT
import Derived.Test.YtnnaehcmchndmaaGreatDoorProg
import Derived.WalkKit
import Derived.WalkSpells
import Derived.StillTactics
import Derived.OwnWalk
import Derived.Laws.Pointers
import Derived.Deep.RegionLaw
import Derived.Deep.AppendLies
import Derived.Deep.LoopGhost
import Derived.KernelRfl

set_option linter.unusedSimpArgs false
set_option linter.unusedVariables false

namespace Go.Sx
open Go Go.Proofs

open Go.ChangeShapes Go.WideShapes Go.ChangeAt Go.RowKit
open Go.Proofs.YtnnaehcmchndmaaGreatDoor

theorem jf0 : (Rows.topSharedTitlesRow.wf (OpenSpec.ofChange Rows.topSharedTitlesSpec)) = true := by kernel_rfl
theorem jf3 : (Tryz.f6.params.all (Tryz.prog.readableRec ·)) = true := by kernel_rfl
theorem jf4 : (namedTie Tryz.prog Rows.topSharedTitlesRow.named Rows.topSharedTitlesSpec.vars) = true := by kernel_rfl
theorem jf5 : ((Rows.topSharedTitlesRow.stops == [])) = true := by kernel_rfl
theorem jf7 : ((Rows.topSharedTitlesRow.knobs == [])) = true := by kernel_rfl
theorem jf9 : ((Rows.topSharedTitlesRow.inPlace == Tryz.prog.inPlace 6)) = true := by kernel_rfl
theorem jf10 : ((Rows.topSharedTitlesRow.unfollowed == Tryz.prog.unfollowed 6)) = true := by kernel_rfl
theorem jf11 : ((Rows.topSharedTitlesRow.recurses == Tryz.prog.recurses 6)) = true := by kernel_rfl
theorem jf12 : ((Rows.topSharedTitlesRow.named == Tryz.prog.varsNamed 6)) = true := by kernel_rfl
theorem jf13 : ((Rows.topSharedTitlesRow.maps == (Tryz.f6.params.toList ++ Rows.topSharedTitlesSpec.plain.varTypes Tryz.prog).any (Tryz.prog.mapsRec ·))) = true := by kernel_rfl
theorem jf14 : ((Rows.topSharedTitlesRow.ifaces == (Tryz.f6.params.toList ++ Rows.topSharedTitlesSpec.plain.varTypes Tryz.prog).any (Tryz.prog.ifacesRec ·))) = true := by kernel_rfl
theorem jf15 : ((Rows.topSharedTitlesRow.mapsOut == Tryz.prog.mapsAmong Tryz.f6.resultTypes.toList)) = true := by kernel_rfl
theorem jf16 : ((Rows.topSharedTitlesRow.loops == (Tryz.f6.params.toList ++ Rows.topSharedTitlesSpec.plain.varTypes Tryz.prog).any (Tryz.prog.loopsFrom ·))) = true := by kernel_rfl
theorem jf17 : ((Rows.topSharedTitlesRow.wideKeys == (Tryz.f6.params.toList ++ Rows.topSharedTitlesSpec.plain.varTypes Tryz.prog ++ Tryz.f6.resultTypes.toList).any (Tryz.prog.wideKeysFrom ·))) = true := by kernel_rfl
theorem jf18 : (Rows.topSharedTitlesSpec.vars.all (Tryz.prog.varReadable ·)) = true := by kernel_rfl
theorem jf19 : (Tryz.f6.resultTypes.all (fun t => Tryz.prog.readableRec t && decide (t < Tryz.prog.types.size))) = true := by kernel_rfl
theorem jf20 : ((Rows.topSharedTitlesRow.ifacesOut == Tryz.f6.resultTypes.toList.any (Tryz.prog.ifacesRec ·))) = true := by kernel_rfl
theorem jf21 : ((Rows.topSharedTitlesRow.loopsOut == Tryz.f6.resultTypes.toList.any (Tryz.prog.loopsFrom ·))) = true := by kernel_rfl
theorem jf22 : ((Rows.topSharedTitlesRow.plainKeys == Tryz.prog.plainKeys)) = true := by kernel_rfl
theorem jf23 : (Rows.topSharedTitlesRow.shortTexts.isNone) = true := by kernel_rfl
theorem jf26 : ((Rows.topSharedTitlesRow.lifted == Tryz.prog.liftsFinal)) = true := by kernel_rfl
theorem jf27 : ((Tryz.prog.make == some Rows.topSharedTitlesRow.make)) = true := by kernel_rfl
theorem jf28 : ((Rows.topSharedTitlesRow.kinds == (if Rows.topSharedTitlesRow.domain.isEmpty then [] else Tryz.f6.params.toList.map fun t => match Tryz.prog.underlying t with | some (.int k) => some k | _ => none))) = true := by kernel_rfl
theorem jf29 : ((Rows.topSharedTitlesRow.pinned == Rows.topSharedTitlesRow.pinnedBy)) = true := by kernel_rfl
theorem jf30 : ((Rows.topSharedTitlesRow.veiled == (Tryz.f6.params.toList ++ Rows.topSharedTitlesSpec.plain.varTypes Tryz.prog ++ Tryz.f6.resultTypes.toList).any (Tryz.prog.veiledRec ·))) = true := by kernel_rfl
theorem jf31 : (Rows.topSharedTitlesRow.veiledFits Tryz.prog Tryz.f6.params.toList (Tryz.f6.params.toList ++ Rows.topSharedTitlesSpec.plain.varTypes Tryz.prog ++ Tryz.f6.resultTypes.toList)) = true := by kernel_rfl

end Go.Sx
