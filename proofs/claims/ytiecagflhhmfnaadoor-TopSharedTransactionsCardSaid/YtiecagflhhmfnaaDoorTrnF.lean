/- Part TrnF of a proof: helper lemmas; no conditions. -/
import Derived.Test.YtiecagflhhmfnaaDoorT
import Derived.Test.YtiecagflhhmfnaaDoorProg
import Derived.WalkKit
import Derived.WalkSpells
import Derived.StillTactics
import Derived.OwnWalk
import Derived.Laws.Pointers
import Derived.Deep.RegionLaw
import Derived.Deep.AppendLies
import Derived.Deep.LoopGhost
import Derived.KernelRfl

set_option linter.unusedSimpArgs false
set_option linter.unusedVariables false

namespace Go.Sx
open Go Go.Proofs

open Go.ChangeShapes Go.WideShapes Go.ChangeAt Go.RowKit
open Go.Proofs.YtiecagflhhmfnaaDoor

theorem jf0 : (Rows.topSharedTransactionsRow.wf (OpenSpec.ofChange Rows.topSharedTransactionsSpec)) = true := by kernel_rfl
theorem jf3 : (Tryd.f10.params.all (Tryd.prog.readableRec ·)) = true := by kernel_rfl
theorem jf4 : (namedTie Tryd.prog Rows.topSharedTransactionsRow.named Rows.topSharedTransactionsSpec.vars) = true := by kernel_rfl
theorem jf5 : ((Rows.topSharedTransactionsRow.stops == [])) = true := by kernel_rfl
theorem jf7 : ((Rows.topSharedTransactionsRow.knobs == [])) = true := by kernel_rfl
theorem jf9 : ((Rows.topSharedTransactionsRow.inPlace == Tryd.prog.inPlace 10)) = true := by kernel_rfl
theorem jf10 : ((Rows.topSharedTransactionsRow.unfollowed == Tryd.prog.unfollowed 10)) = true := by kernel_rfl
theorem jf11 : ((Rows.topSharedTransactionsRow.recurses == Tryd.prog.recurses 10)) = true := by kernel_rfl
theorem jf12 : ((Rows.topSharedTransactionsRow.named == Tryd.prog.varsNamed 10)) = true := by kernel_rfl
theorem jf13 : ((Rows.topSharedTransactionsRow.maps == (Tryd.f10.params.toList ++ Rows.topSharedTransactionsSpec.plain.varTypes Tryd.prog).any (Tryd.prog.mapsRec ·))) = true := by kernel_rfl
theorem jf14 : ((Rows.topSharedTransactionsRow.ifaces == (Tryd.f10.params.toList ++ Rows.topSharedTransactionsSpec.plain.varTypes Tryd.prog).any (Tryd.prog.ifacesRec ·))) = true := by kernel_rfl
theorem jf15 : ((Rows.topSharedTransactionsRow.mapsOut == Tryd.prog.mapsAmong Tryd.f10.resultTypes.toList)) = true := by kernel_rfl
theorem jf16 : ((Rows.topSharedTransactionsRow.loops == (Tryd.f10.params.toList ++ Rows.topSharedTransactionsSpec.plain.varTypes Tryd.prog).any (Tryd.prog.loopsFrom ·))) = true := by kernel_rfl
theorem jf17 : ((Rows.topSharedTransactionsRow.wideKeys == (Tryd.f10.params.toList ++ Rows.topSharedTransactionsSpec.plain.varTypes Tryd.prog ++ Tryd.f10.resultTypes.toList).any (Tryd.prog.wideKeysFrom ·))) = true := by kernel_rfl
theorem jf18 : (Rows.topSharedTransactionsSpec.vars.all (Tryd.prog.varReadable ·)) = true := by kernel_rfl
theorem jf19 : (Tryd.f10.resultTypes.all (fun t => Tryd.prog.readableRec t && decide (t < Tryd.prog.types.size))) = true := by kernel_rfl
theorem jf20 : ((Rows.topSharedTransactionsRow.ifacesOut == Tryd.f10.resultTypes.toList.any (Tryd.prog.ifacesRec ·))) = true := by kernel_rfl
theorem jf21 : ((Rows.topSharedTransactionsRow.loopsOut == Tryd.f10.resultTypes.toList.any (Tryd.prog.loopsFrom ·))) = true := by kernel_rfl
theorem jf22 : ((Rows.topSharedTransactionsRow.plainKeys == Tryd.prog.plainKeys)) = true := by kernel_rfl
theorem jf23 : (Rows.topSharedTransactionsRow.shortTexts.isNone) = true := by kernel_rfl
theorem jf26 : ((Rows.topSharedTransactionsRow.lifted == Tryd.prog.liftsFinal)) = true := by kernel_rfl
theorem jf27 : ((Tryd.prog.make == some Rows.topSharedTransactionsRow.make)) = true := by kernel_rfl
theorem jf28 : ((Rows.topSharedTransactionsRow.kinds == (if Rows.topSharedTransactionsRow.domain.isEmpty then [] else Tryd.f10.params.toList.map fun t => match Tryd.prog.underlying t with | some (.int k) => some k | _ => none))) = true := by kernel_rfl
theorem jf29 : ((Rows.topSharedTransactionsRow.pinned == Rows.topSharedTransactionsRow.pinnedBy)) = true := by kernel_rfl
theorem jf30 : ((Rows.topSharedTransactionsRow.veiled == (Tryd.f10.params.toList ++ Rows.topSharedTransactionsSpec.plain.varTypes Tryd.prog ++ Tryd.f10.resultTypes.toList).any (Tryd.prog.veiledRec ·))) = true := by kernel_rfl
theorem jf31 : (Rows.topSharedTransactionsRow.veiledFits Tryd.prog Tryd.f10.params.toList (Tryd.f10.params.toList ++ Rows.topSharedTransactionsSpec.plain.varTypes Tryd.prog ++ Tryd.f10.resultTypes.toList)) = true := by kernel_rfl

end Go.Sx
