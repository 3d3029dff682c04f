/- Part FraF of a proof: helper lemmas; no conditions. -/
import Derived.Test.YtiecagflhhmfnaaDoorT
import Derived.Test.YtiecagflhhmfnaaDoorProg
import Derived.WalkKit
import Derived.WalkSpells
import Derived.StillTactics
import Derived.OwnWalk
import Derived.Laws.Pointers
import Derived.Deep.RegionLaw
import Derived.Deep.AppendLies
import Derived.Deep.LoopGhost
import Derived.KernelRfl

namespace Go.Sx
open Go Go.Proofs

open Go.ChangeShapes Go.WideShapes Go.ChangeAt Go.RowKit
open Go.Proofs.YtiecagflhhmfnaaDoor

theorem jf0 : (Rows.topSharedFramesRow.wf (OpenSpec.ofChange Rows.topSharedFramesSpec)) = true := by kernel_rfl
theorem jf3 : (Tryd.f9.params.all (Tryd.prog.readableRec ·)) = true := by kernel_rfl
theorem jf4 : (namedTie Tryd.prog Rows.topSharedFramesRow.named Rows.topSharedFramesSpec.vars) = true := by kernel_rfl
theorem jf5 : ((Rows.topSharedFramesRow.stops == [])) = true := by kernel_rfl
theorem jf7 : ((Rows.topSharedFramesRow.knobs == [])) = true := by kernel_rfl
theorem jf9 : ((Rows.topSharedFramesRow.inPlace == Tryd.prog.inPlace 9)) = true := by kernel_rfl
theorem jf10 : ((Rows.topSharedFramesRow.unfollowed == Tryd.prog.unfollowed 9)) = true := by kernel_rfl
theorem jf11 : ((Rows.topSharedFramesRow.recurses == Tryd.prog.recurses 9)) = true := by kernel_rfl
theorem jf12 : ((Rows.topSharedFramesRow.named == Tryd.prog.varsNamed 9)) = true := by kernel_rfl
theorem jf13 : ((Rows.topSharedFramesRow.maps == (Tryd.f9.params.toList ++ Rows.topSharedFramesSpec.plain.varTypes Tryd.prog).any (Tryd.prog.mapsRec ·))) = true := by kernel_rfl
theorem jf14 : ((Rows.topSharedFramesRow.ifaces == (Tryd.f9.params.toList ++ Rows.topSharedFramesSpec.plain.varTypes Tryd.prog).any (Tryd.prog.ifacesRec ·))) = true := by kernel_rfl
theorem jf15 : ((Rows.topSharedFramesRow.mapsOut == Tryd.prog.mapsAmong Tryd.f9.resultTypes.toList)) = true := by kernel_rfl
theorem jf16 : ((Rows.topSharedFramesRow.loops == (Tryd.f9.params.toList ++ Rows.topSharedFramesSpec.plain.varTypes Tryd.prog).any (Tryd.prog.loopsFrom ·))) = true := by kernel_rfl
theorem jf17 : ((Rows.topSharedFramesRow.wideKeys == (Tryd.f9.params.toList ++ Rows.topSharedFramesSpec.plain.varTypes Tryd.prog ++ Tryd.f9.resultTypes.toList).any (Tryd.prog.wideKeysFrom ·))) = true := by kernel_rfl
theorem jf18 : (Rows.topSharedFramesSpec.vars.all (Tryd.prog.varReadable ·)) = true := by kernel_rfl
theorem jf19 : (Tryd.f9.resultTypes.all (fun t => Tryd.prog.readableRec t && decide (t < Tryd.prog.types.size))) = true := by kernel_rfl
theorem jf20 : ((Rows.topSharedFramesRow.ifacesOut == Tryd.f9.resultTypes.toList.any (Tryd.prog.ifacesRec ·))) = true := by kernel_rfl
theorem jf21 : ((Rows.topSharedFramesRow.loopsOut == Tryd.f9.resultTypes.toList.any (Tryd.prog.loopsFrom ·))) = true := by kernel_rfl
theorem jf22 : ((Rows.topSharedFramesRow.plainKeys == Tryd.prog.plainKeys)) = true := by kernel_rfl
theorem jf23 : (Rows.topSharedFramesRow.shortTexts.isNone) = true := by kernel_rfl
theorem jf26 : ((Rows.topSharedFramesRow.lifted == Tryd.prog.liftsFinal)) = true := by kernel_rfl
theorem jf27 : ((Tryd.prog.make == some Rows.topSharedFramesRow.make)) = true := by kernel_rfl
theorem jf28 : ((Rows.topSharedFramesRow.kinds == (if Rows.topSharedFramesRow.domain.isEmpty then [] else Tryd.f9.params.toList.map fun t => match Tryd.prog.underlying t with | some (.int k) => some k | _ => none))) = true := by kernel_rfl
theorem jf29 : ((Rows.topSharedFramesRow.pinned == Rows.topSharedFramesRow.pinnedBy)) = true := by kernel_rfl
theorem jf30 : ((Rows.topSharedFramesRow.veiled == (Tryd.f9.params.toList ++ Rows.topSharedFramesSpec.plain.varTypes Tryd.prog ++ Tryd.f9.resultTypes.toList).any (Tryd.prog.veiledRec ·))) = true := by kernel_rfl
theorem jf31 : (Rows.topSharedFramesRow.veiledFits Tryd.prog Tryd.f9.params.toList (Tryd.f9.params.toList ++ Rows.topSharedFramesSpec.plain.varTypes Tryd.prog ++ Tryd.f9.resultTypes.toList)) = true := by kernel_rfl

end Go.Sx
