/- Part TagF of a proof: helper lemmas; no conditions. -/
import Derived.Test.YtadhlkgjiccdpaaGreatDoorT
import Derived.Test.YtadhlkgjiccdpaaGreatDoorProg
import Derived.WalkKit
import Derived.WalkSpells
import Derived.StillTactics
import Derived.OwnWalk
import Derived.Laws.Pointers
import Derived.Deep.RegionLaw
import Derived.Deep.AppendLies
import Derived.Deep.LoopGhost
import Derived.KernelRfl

set_option linter.unusedSimpArgs false
set_option linter.unusedVariables false

namespace Go.Sx
open Go Go.Proofs

open Go.ChangeShapes Go.WideShapes Go.ChangeAt Go.RowKit
open Go.Proofs.YtadhlkgjiccdpaaGreatDoor

theorem jf0 : (Rows.topSharedTagsRow.wf (OpenSpec.ofChange Rows.topSharedTagsSpec)) = true := by kernel_rfl
theorem jf3 : (Tryz.f5.params.all (Tryz.prog.readableRec ·)) = true := by kernel_rfl
theorem jf4 : (namedTie Tryz.prog Rows.topSharedTagsRow.named Rows.topSharedTagsSpec.vars) = true := by kernel_rfl
theorem jf5 : ((Rows.topSharedTagsRow.stops == [])) = true := by kernel_rfl
theorem jf7 : ((Rows.topSharedTagsRow.knobs == [])) = true := by kernel_rfl
theorem jf9 : ((Rows.topSharedTagsRow.inPlace == Tryz.prog.inPlace 5)) = true := by kernel_rfl
theorem jf10 : ((Rows.topSharedTagsRow.unfollowed == Tryz.prog.unfollowed 5)) = true := by kernel_rfl
theorem jf11 : ((Rows.topSharedTagsRow.recurses == Tryz.prog.recurses 5)) = true := by kernel_rfl
theorem jf12 : ((Rows.topSharedTagsRow.named == Tryz.prog.varsNamed 5)) = true := by kernel_rfl
theorem jf13 : ((Rows.topSharedTagsRow.maps == (Tryz.f5.params.toList ++ Rows.topSharedTagsSpec.plain.varTypes Tryz.prog).any (Tryz.prog.mapsRec ·))) = true := by kernel_rfl
theorem jf14 : ((Rows.topSharedTagsRow.ifaces == (Tryz.f5.params.toList ++ Rows.topSharedTagsSpec.plain.varTypes Tryz.prog).any (Tryz.prog.ifacesRec ·))) = true := by kernel_rfl
theorem jf15 : ((Rows.topSharedTagsRow.mapsOut == Tryz.prog.mapsAmong Tryz.f5.resultTypes.toList)) = true := by kernel_rfl
theorem jf16 : ((Rows.topSharedTagsRow.loops == (Tryz.f5.params.toList ++ Rows.topSharedTagsSpec.plain.varTypes Tryz.prog).any (Tryz.prog.loopsFrom ·))) = true := by kernel_rfl
theorem jf17 : ((Rows.topSharedTagsRow.wideKeys == (Tryz.f5.params.toList ++ Rows.topSharedTagsSpec.plain.varTypes Tryz.prog ++ Tryz.f5.resultTypes.toList).any (Tryz.prog.wideKeysFrom ·))) = true := by kernel_rfl
theorem jf18 : (Rows.topSharedTagsSpec.vars.all (Tryz.prog.varReadable ·)) = true := by kernel_rfl
theorem jf19 : (Tryz.f5.resultTypes.all (fun t => Tryz.prog.readableRec t && decide (t < Tryz.prog.types.size))) = true := by kernel_rfl
theorem jf20 : ((Rows.topSharedTagsRow.ifacesOut == Tryz.f5.resultTypes.toList.any (Tryz.prog.ifacesRec ·))) = true := by kernel_rfl
theorem jf21 : ((Rows.topSharedTagsRow.loopsOut == Tryz.f5.resultTypes.toList.any (Tryz.prog.loopsFrom ·))) = true := by kernel_rfl
theorem jf22 : ((Rows.topSharedTagsRow.plainKeys == Tryz.prog.plainKeys)) = true := by kernel_rfl
theorem jf23 : (Rows.topSharedTagsRow.shortTexts.isNone) = true := by kernel_rfl
theorem jf26 : ((Rows.topSharedTagsRow.lifted == Tryz.prog.liftsFinal)) = true := by kernel_rfl
theorem jf27 : ((Tryz.prog.make == some Rows.topSharedTagsRow.make)) = true := by kernel_rfl
theorem jf28 : ((Rows.topSharedTagsRow.kinds == (if Rows.topSharedTagsRow.domain.isEmpty then [] else Tryz.f5.params.toList.map fun t => match Tryz.prog.underlying t with | some (.int k) => some k | _ => none))) = true := by kernel_rfl
theorem jf29 : ((Rows.topSharedTagsRow.pinned == Rows.topSharedTagsRow.pinnedBy)) = true := by kernel_rfl
theorem jf30 : ((Rows.topSharedTagsRow.veiled == (Tryz.f5.params.toList ++ Rows.topSharedTagsSpec.plain.varTypes Tryz.prog ++ Tryz.f5.resultTypes.toList).any (Tryz.prog.veiledRec ·))) = true := by kernel_rfl
theorem jf31 : (Rows.topSharedTagsRow.veiledFits Tryz.prog Tryz.f5.params.toList (Tryz.f5.params.toList ++ Rows.topSharedTagsSpec.plain.varTypes Tryz.prog ++ Tryz.f5.resultTypes.toList)) = true := by kernel_rfl

end Go.Sx
