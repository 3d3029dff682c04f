/- Part UpdF of a proof: helper lemmas; no conditions. -/
import Derived.Test.YtadhlkgjiccdpaaGreatDoorT
import Derived.Test.YtadhlkgjiccdpaaGreatDoorProg
import Derived.WalkKit
import Derived.WalkSpells
import Derived.StillTactics
import Derived.OwnWalk
import Derived.Laws.Pointers
import Derived.Deep.RegionLaw
import Derived.Deep.AppendLies
import Derived.Deep.LoopGhost
import Derived.KernelRfl

set_option linter.unusedSimpArgs false
set_option linter.unusedVariables false

namespace Go.Sx
open Go Go.Proofs

open Go.ChangeShapes Go.WideShapes Go.ChangeAt Go.RowKit
open Go.Proofs.YtadhlkgjiccdpaaGreatDoor

theorem jf0 : (Rows.topSharedUpdatesRow.wf (OpenSpec.ofChange Rows.topSharedUpdatesSpec)) = true := by kernel_rfl
theorem jf3 : (Tryz.f3.params.all (Tryz.prog.readableRec ·)) = true := by kernel_rfl
theorem jf4 : (namedTie Tryz.prog Rows.topSharedUpdatesRow.named Rows.topSharedUpdatesSpec.vars) = true := by kernel_rfl
theorem jf5 : ((Rows.topSharedUpdatesRow.stops == [])) = true := by kernel_rfl
theorem jf7 : ((Rows.topSharedUpdatesRow.knobs == [])) = true := by kernel_rfl
theorem jf9 : ((Rows.topSharedUpdatesRow.inPlace == Tryz.prog.inPlace 3)) = true := by kernel_rfl
theorem jf10 : ((Rows.topSharedUpdatesRow.unfollowed == Tryz.prog.unfollowed 3)) = true := by kernel_rfl
theorem jf11 : ((Rows.topSharedUpdatesRow.recurses == Tryz.prog.recurses 3)) = true := by kernel_rfl
theorem jf12 : ((Rows.topSharedUpdatesRow.named == Tryz.prog.varsNamed 3)) = true := by kernel_rfl
theorem jf13 : ((Rows.topSharedUpdatesRow.maps == (Tryz.f3.params.toList ++ Rows.topSharedUpdatesSpec.plain.varTypes Tryz.prog).any (Tryz.prog.mapsRec ·))) = true := by kernel_rfl
theorem jf14 : ((Rows.topSharedUpdatesRow.ifaces == (Tryz.f3.params.toList ++ Rows.topSharedUpdatesSpec.plain.varTypes Tryz.prog).any (Tryz.prog.ifacesRec ·))) = true := by kernel_rfl
theorem jf15 : ((Rows.topSharedUpdatesRow.mapsOut == Tryz.prog.mapsAmong Tryz.f3.resultTypes.toList)) = true := by kernel_rfl
theorem jf16 : ((Rows.topSharedUpdatesRow.loops == (Tryz.f3.params.toList ++ Rows.topSharedUpdatesSpec.plain.varTypes Tryz.prog).any (Tryz.prog.loopsFrom ·))) = true := by kernel_rfl
theorem jf17 : ((Rows.topSharedUpdatesRow.wideKeys == (Tryz.f3.params.toList ++ Rows.topSharedUpdatesSpec.plain.varTypes Tryz.prog ++ Tryz.f3.resultTypes.toList).any (Tryz.prog.wideKeysFrom ·))) = true := by kernel_rfl
theorem jf18 : (Rows.topSharedUpdatesSpec.vars.all (Tryz.prog.varReadable ·)) = true := by kernel_rfl
theorem jf19 : (Tryz.f3.resultTypes.all (fun t => Tryz.prog.readableRec t && decide (t < Tryz.prog.types.size))) = true := by kernel_rfl
theorem jf20 : ((Rows.topSharedUpdatesRow.ifacesOut == Tryz.f3.resultTypes.toList.any (Tryz.prog.ifacesRec ·))) = true := by kernel_rfl
theorem jf21 : ((Rows.topSharedUpdatesRow.loopsOut == Tryz.f3.resultTypes.toList.any (Tryz.prog.loopsFrom ·))) = true := by kernel_rfl
theorem jf22 : ((Rows.topSharedUpdatesRow.plainKeys == Tryz.prog.plainKeys)) = true := by kernel_rfl
theorem jf23 : (Rows.topSharedUpdatesRow.shortTexts.isNone) = true := by kernel_rfl
theorem jf26 : ((Rows.topSharedUpdatesRow.lifted == Tryz.prog.liftsFinal)) = true := by kernel_rfl
theorem jf27 : ((Tryz.prog.make == some Rows.topSharedUpdatesRow.make)) = true := by kernel_rfl
theorem jf28 : ((Rows.topSharedUpdatesRow.kinds == (if Rows.topSharedUpdatesRow.domain.isEmpty then [] else Tryz.f3.params.toList.map fun t => match Tryz.prog.underlying t with | some (.int k) => some k | _ => none))) = true := by kernel_rfl
theorem jf29 : ((Rows.topSharedUpdatesRow.pinned == Rows.topSharedUpdatesRow.pinnedBy)) = true := by kernel_rfl
theorem jf30 : ((Rows.topSharedUpdatesRow.veiled == (Tryz.f3.params.toList ++ Rows.topSharedUpdatesSpec.plain.varTypes Tryz.prog ++ Tryz.f3.resultTypes.toList).any (Tryz.prog.veiledRec ·))) = true := by kernel_rfl
theorem jf31 : (Rows.topSharedUpdatesRow.veiledFits Tryz.prog Tryz.f3.params.toList (Tryz.f3.params.toList ++ Rows.topSharedUpdatesSpec.plain.varTypes Tryz.prog ++ Tryz.f3.resultTypes.toList)) = true := by kernel_rfl

end Go.Sx
