/- Part LabF of a proof: helper lemmas; no conditions. -/
import Derived.Test.YtiecagflhhmfnaaDoorT
import Derived.Test.YtiecagflhhmfnaaDoorProg
import Derived.WalkKit
import Derived.WalkSpells
import Derived.StillTactics
import Derived.OwnWalk
import Derived.Laws.Pointers
import Derived.Deep.RegionLaw
import Derived.Deep.AppendLies
import Derived.Deep.LoopGhost
import Derived.KernelRfl

namespace Go.Sx
open Go Go.Proofs

open Go.ChangeShapes Go.WideShapes Go.ChangeAt Go.RowKit
open Go.Proofs.YtiecagflhhmfnaaDoor

theorem jf0 : (Rows.topSharedLabelsRow.wf (OpenSpec.ofChange Rows.topSharedLabelsSpec)) = true := by kernel_rfl
theorem jf3 : (Tryd.f7.params.all (Tryd.prog.readableRec ·)) = true := by kernel_rfl
theorem jf4 : (namedTie Tryd.prog Rows.topSharedLabelsRow.named Rows.topSharedLabelsSpec.vars) = true := by kernel_rfl
theorem jf5 : ((Rows.topSharedLabelsRow.stops == [])) = true := by kernel_rfl
theorem jf7 : ((Rows.topSharedLabelsRow.knobs == [])) = true := by kernel_rfl
theorem jf9 : ((Rows.topSharedLabelsRow.inPlace == Tryd.prog.inPlace 7)) = true := by kernel_rfl
theorem jf10 : ((Rows.topSharedLabelsRow.unfollowed == Tryd.prog.unfollowed 7)) = true := by kernel_rfl
theorem jf11 : ((Rows.topSharedLabelsRow.recurses == Tryd.prog.recurses 7)) = true := by kernel_rfl
theorem jf12 : ((Rows.topSharedLabelsRow.named == Tryd.prog.varsNamed 7)) = true := by kernel_rfl
theorem jf13 : ((Rows.topSharedLabelsRow.maps == (Tryd.f7.params.toList ++ Rows.topSharedLabelsSpec.plain.varTypes Tryd.prog).any (Tryd.prog.mapsRec ·))) = true := by kernel_rfl
theorem jf14 : ((Rows.topSharedLabelsRow.ifaces == (Tryd.f7.params.toList ++ Rows.topSharedLabelsSpec.plain.varTypes Tryd.prog).any (Tryd.prog.ifacesRec ·))) = true := by kernel_rfl
theorem jf15 : ((Rows.topSharedLabelsRow.mapsOut == Tryd.prog.mapsAmong Tryd.f7.resultTypes.toList)) = true := by kernel_rfl
theorem jf16 : ((Rows.topSharedLabelsRow.loops == (Tryd.f7.params.toList ++ Rows.topSharedLabelsSpec.plain.varTypes Tryd.prog).any (Tryd.prog.loopsFrom ·))) = true := by kernel_rfl
theorem jf17 : ((Rows.topSharedLabelsRow.wideKeys == (Tryd.f7.params.toList ++ Rows.topSharedLabelsSpec.plain.varTypes Tryd.prog ++ Tryd.f7.resultTypes.toList).any (Tryd.prog.wideKeysFrom ·))) = true := by kernel_rfl
theorem jf18 : (Rows.topSharedLabelsSpec.vars.all (Tryd.prog.varReadable ·)) = true := by kernel_rfl
theorem jf19 : (Tryd.f7.resultTypes.all (fun t => Tryd.prog.readableRec t && decide (t < Tryd.prog.types.size))) = true := by kernel_rfl
theorem jf20 : ((Rows.topSharedLabelsRow.ifacesOut == Tryd.f7.resultTypes.toList.any (Tryd.prog.ifacesRec ·))) = true := by kernel_rfl
theorem jf21 : ((Rows.topSharedLabelsRow.loopsOut == Tryd.f7.resultTypes.toList.any (Tryd.prog.loopsFrom ·))) = true := by kernel_rfl
theorem jf22 : ((Rows.topSharedLabelsRow.plainKeys == Tryd.prog.plainKeys)) = true := by kernel_rfl
theorem jf23 : (Rows.topSharedLabelsRow.shortTexts.isNone) = true := by kernel_rfl
theorem jf26 : ((Rows.topSharedLabelsRow.lifted == Tryd.prog.liftsFinal)) = true := by kernel_rfl
theorem jf27 : ((Tryd.prog.make == some Rows.topSharedLabelsRow.make)) = true := by kernel_rfl
theorem jf28 : ((Rows.topSharedLabelsRow.kinds == (if Rows.topSharedLabelsRow.domain.isEmpty then [] else Tryd.f7.params.toList.map fun t => match Tryd.prog.underlying t with | some (.int k) => some k | _ => none))) = true := by kernel_rfl
theorem jf29 : ((Rows.topSharedLabelsRow.pinned == Rows.topSharedLabelsRow.pinnedBy)) = true := by kernel_rfl
theorem jf30 : ((Rows.topSharedLabelsRow.veiled == (Tryd.f7.params.toList ++ Rows.topSharedLabelsSpec.plain.varTypes Tryd.prog ++ Tryd.f7.resultTypes.toList).any (Tryd.prog.veiledRec ·))) = true := by kernel_rfl
theorem jf31 : (Rows.topSharedLabelsRow.veiledFits Tryd.prog Tryd.f7.params.toList (Tryd.f7.params.toList ++ Rows.topSharedLabelsSpec.plain.varTypes Tryd.prog ++ Tryd.f7.resultTypes.toList)) = true := by kernel_rfl

end Go.Sx
