/- Part ShaF of a proof: helper lemmas; no conditions. -/
import Derived.Test.YtiecagflhhmfnaaDoorT
import Derived.Test.YtiecagflhhmfnaaDoorProg
import Derived.WalkKit
import Derived.WalkSpells
import Derived.StillTactics
import Derived.OwnWalk
import Derived.Laws.Pointers
import Derived.Deep.RegionLaw
import Derived.Deep.AppendLies
import Derived.Deep.LoopGhost
import Derived.KernelRfl

namespace Go.Sx
open Go Go.Proofs

open Go.ChangeShapes Go.WideShapes Go.ChangeAt Go.RowKit
open Go.Proofs.YtiecagflhhmfnaaDoor

theorem jf0 : (Rows.topSharedSharesRow.wf (OpenSpec.ofChange Rows.topSharedSharesSpec)) = true := by kernel_rfl
theorem jf3 : (Tryd.f6.params.all (Tryd.prog.readableRec ·)) = true := by kernel_rfl
theorem jf4 : (namedTie Tryd.prog Rows.topSharedSharesRow.named Rows.topSharedSharesSpec.vars) = true := by kernel_rfl
theorem jf5 : ((Rows.topSharedSharesRow.stops == [])) = true := by kernel_rfl
theorem jf7 : ((Rows.topSharedSharesRow.knobs == [])) = true := by kernel_rfl
theorem jf9 : ((Rows.topSharedSharesRow.inPlace == Tryd.prog.inPlace 6)) = true := by kernel_rfl
theorem jf10 : ((Rows.topSharedSharesRow.unfollowed == Tryd.prog.unfollowed 6)) = true := by kernel_rfl
theorem jf11 : ((Rows.topSharedSharesRow.recurses == Tryd.prog.recurses 6)) = true := by kernel_rfl
theorem jf12 : ((Rows.topSharedSharesRow.named == Tryd.prog.varsNamed 6)) = true := by kernel_rfl
theorem jf13 : ((Rows.topSharedSharesRow.maps == (Tryd.f6.params.toList ++ Rows.topSharedSharesSpec.plain.varTypes Tryd.prog).any (Tryd.prog.mapsRec ·))) = true := by kernel_rfl
theorem jf14 : ((Rows.topSharedSharesRow.ifaces == (Tryd.f6.params.toList ++ Rows.topSharedSharesSpec.plain.varTypes Tryd.prog).any (Tryd.prog.ifacesRec ·))) = true := by kernel_rfl
theorem jf15 : ((Rows.topSharedSharesRow.mapsOut == Tryd.prog.mapsAmong Tryd.f6.resultTypes.toList)) = true := by kernel_rfl
theorem jf16 : ((Rows.topSharedSharesRow.loops == (Tryd.f6.params.toList ++ Rows.topSharedSharesSpec.plain.varTypes Tryd.prog).any (Tryd.prog.loopsFrom ·))) = true := by kernel_rfl
theorem jf17 : ((Rows.topSharedSharesRow.wideKeys == (Tryd.f6.params.toList ++ Rows.topSharedSharesSpec.plain.varTypes Tryd.prog ++ Tryd.f6.resultTypes.toList).any (Tryd.prog.wideKeysFrom ·))) = true := by kernel_rfl
theorem jf18 : (Rows.topSharedSharesSpec.vars.all (Tryd.prog.varReadable ·)) = true := by kernel_rfl
theorem jf19 : (Tryd.f6.resultTypes.all (fun t => Tryd.prog.readableRec t && decide (t < Tryd.prog.types.size))) = true := by kernel_rfl
theorem jf20 : ((Rows.topSharedSharesRow.ifacesOut == Tryd.f6.resultTypes.toList.any (Tryd.prog.ifacesRec ·))) = true := by kernel_rfl
theorem jf21 : ((Rows.topSharedSharesRow.loopsOut == Tryd.f6.resultTypes.toList.any (Tryd.prog.loopsFrom ·))) = true := by kernel_rfl
theorem jf22 : ((Rows.topSharedSharesRow.plainKeys == Tryd.prog.plainKeys)) = true := by kernel_rfl
theorem jf23 : (Rows.topSharedSharesRow.shortTexts.isNone) = true := by kernel_rfl
theorem jf26 : ((Rows.topSharedSharesRow.lifted == Tryd.prog.liftsFinal)) = true := by kernel_rfl
theorem jf27 : ((Tryd.prog.make == some Rows.topSharedSharesRow.make)) = true := by kernel_rfl
theorem jf28 : ((Rows.topSharedSharesRow.kinds == (if Rows.topSharedSharesRow.domain.isEmpty then [] else Tryd.f6.params.toList.map fun t => match Tryd.prog.underlying t with | some (.int k) => some k | _ => none))) = true := by kernel_rfl
theorem jf29 : ((Rows.topSharedSharesRow.pinned == Rows.topSharedSharesRow.pinnedBy)) = true := by kernel_rfl
theorem jf30 : ((Rows.topSharedSharesRow.veiled == (Tryd.f6.params.toList ++ Rows.topSharedSharesSpec.plain.varTypes Tryd.prog ++ Tryd.f6.resultTypes.toList).any (Tryd.prog.veiledRec ·))) = true := by kernel_rfl
theorem jf31 : (Rows.topSharedSharesRow.veiledFits Tryd.prog Tryd.f6.params.toList (Tryd.f6.params.toList ++ Rows.topSharedSharesSpec.plain.varTypes Tryd.prog ++ Tryd.f6.resultTypes.toList)) = true := by kernel_rfl

end Go.Sx
