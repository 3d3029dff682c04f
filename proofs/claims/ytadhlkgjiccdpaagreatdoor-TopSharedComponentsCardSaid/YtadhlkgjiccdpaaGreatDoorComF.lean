/- Part ComF of a proof: helper lemmas; no conditions. -/
import Derived.Test.YtadhlkgjiccdpaaGreatDoorT
import Derived.Test.YtadhlkgjiccdpaaGreatDoorProg
import Derived.WalkKit
import Derived.WalkSpells
import Derived.StillTactics
import Derived.OwnWalk
import Derived.Laws.Pointers
import Derived.Deep.RegionLaw
import Derived.Deep.AppendLies
import Derived.Deep.LoopGhost
import Derived.KernelRfl

set_option linter.unusedSimpArgs false
set_option linter.unusedVariables false

namespace Go.Sx
open Go Go.Proofs

open Go.ChangeShapes Go.WideShapes Go.ChangeAt Go.RowKit
open Go.Proofs.YtadhlkgjiccdpaaGreatDoor

theorem jf0 : (Rows.topSharedComponentsRow.wf (OpenSpec.ofChange Rows.topSharedComponentsSpec)) = true := by kernel_rfl
theorem jf3 : (Tryz.f4.params.all (Tryz.prog.readableRec ·)) = true := by kernel_rfl
theorem jf4 : (namedTie Tryz.prog Rows.topSharedComponentsRow.named Rows.topSharedComponentsSpec.vars) = true := by kernel_rfl
theorem jf5 : ((Rows.topSharedComponentsRow.stops == [])) = true := by kernel_rfl
theorem jf7 : ((Rows.topSharedComponentsRow.knobs == [])) = true := by kernel_rfl
theorem jf9 : ((Rows.topSharedComponentsRow.inPlace == Tryz.prog.inPlace 4)) = true := by kernel_rfl
theorem jf10 : ((Rows.topSharedComponentsRow.unfollowed == Tryz.prog.unfollowed 4)) = true := by kernel_rfl
theorem jf11 : ((Rows.topSharedComponentsRow.recurses == Tryz.prog.recurses 4)) = true := by kernel_rfl
theorem jf12 : ((Rows.topSharedComponentsRow.named == Tryz.prog.varsNamed 4)) = true := by kernel_rfl
theorem jf13 : ((Rows.topSharedComponentsRow.maps == (Tryz.f4.params.toList ++ Rows.topSharedComponentsSpec.plain.varTypes Tryz.prog).any (Tryz.prog.mapsRec ·))) = true := by kernel_rfl
theorem jf14 : ((Rows.topSharedComponentsRow.ifaces == (Tryz.f4.params.toList ++ Rows.topSharedComponentsSpec.plain.varTypes Tryz.prog).any (Tryz.prog.ifacesRec ·))) = true := by kernel_rfl
theorem jf15 : ((Rows.topSharedComponentsRow.mapsOut == Tryz.prog.mapsAmong Tryz.f4.resultTypes.toList)) = true := by kernel_rfl
theorem jf16 : ((Rows.topSharedComponentsRow.loops == (Tryz.f4.params.toList ++ Rows.topSharedComponentsSpec.plain.varTypes Tryz.prog).any (Tryz.prog.loopsFrom ·))) = true := by kernel_rfl
theorem jf17 : ((Rows.topSharedComponentsRow.wideKeys == (Tryz.f4.params.toList ++ Rows.topSharedComponentsSpec.plain.varTypes Tryz.prog ++ Tryz.f4.resultTypes.toList).any (Tryz.prog.wideKeysFrom ·))) = true := by kernel_rfl
theorem jf18 : (Rows.topSharedComponentsSpec.vars.all (Tryz.prog.varReadable ·)) = true := by kernel_rfl
theorem jf19 : (Tryz.f4.resultTypes.all (fun t => Tryz.prog.readableRec t && decide (t < Tryz.prog.types.size))) = true := by kernel_rfl
theorem jf20 : ((Rows.topSharedComponentsRow.ifacesOut == Tryz.f4.resultTypes.toList.any (Tryz.prog.ifacesRec ·))) = true := by kernel_rfl
theorem jf21 : ((Rows.topSharedComponentsRow.loopsOut == Tryz.f4.resultTypes.toList.any (Tryz.prog.loopsFrom ·))) = true := by kernel_rfl
theorem jf22 : ((Rows.topSharedComponentsRow.plainKeys == Tryz.prog.plainKeys)) = true := by kernel_rfl
theorem jf23 : (Rows.topSharedComponentsRow.shortTexts.isNone) = true := by kernel_rfl
theorem jf26 : ((Rows.topSharedComponentsRow.lifted == Tryz.prog.liftsFinal)) = true := by kernel_rfl
theorem jf27 : ((Tryz.prog.make == some Rows.topSharedComponentsRow.make)) = true := by kernel_rfl
theorem jf28 : ((Rows.topSharedComponentsRow.kinds == (if Rows.topSharedComponentsRow.domain.isEmpty then [] else Tryz.f4.params.toList.map fun t => match Tryz.prog.underlying t with | some (.int k) => some k | _ => none))) = true := by kernel_rfl
theorem jf29 : ((Rows.topSharedComponentsRow.pinned == Rows.topSharedComponentsRow.pinnedBy)) = true := by kernel_rfl
theorem jf30 : ((Rows.topSharedComponentsRow.veiled == (Tryz.f4.params.toList ++ Rows.topSharedComponentsSpec.plain.varTypes Tryz.prog ++ Tryz.f4.resultTypes.toList).any (Tryz.prog.veiledRec ·))) = true := by kernel_rfl
theorem jf31 : (Rows.topSharedComponentsRow.veiledFits Tryz.prog Tryz.f4.params.toList (Tryz.f4.params.toList ++ Rows.topSharedComponentsSpec.plain.varTypes Tryz.prog ++ Tryz.f4.resultTypes.toList)) = true := by kernel_rfl

end Go.Sx
