/- Parts of the proof of AggrGroup. -/
import Derived.JoinedOf
import Derived.KernelRfl
import Derived.ProofKit
import Derived.Test.YtoncpeadbhgmaaaGreatDoorChecked
import Derived.Test.YtoncpeadbhgmaaaGreatDoorGg10
import Derived.Test.YtoncpeadbhgmaaaGreatDoorGg11
import Derived.Test.YtoncpeadbhgmaaaGreatDoorGg12
import Derived.Test.YtoncpeadbhgmaaaGreatDoorGg7
import Derived.Test.YtoncpeadbhgmaaaGreatDoorGg8
import Derived.Test.YtoncpeadbhgmaaaGreatDoorGg9
import Derived.Test.YtoncpeadbhgmaaaGreatDoorProg
import Derived.Test.YtoncpeadbhgmaaaGreatDoorRows
set_option linter.unusedVariables false
set_option maxRecDepth 100000
namespace Go.Proofs.YtoncpeadbhgmaaaGreatDoor.G
open Go.RowKit
theorem aggrGroup_k3 : (Tryz.f11.params.all (Tryz.prog.readableRec ·)) = true := by kernel_rfl
theorem aggrGroup_k4 : (namedTie Tryz.prog Rows.aggrGroupRow.named Rows.aggrGroupSpec.vars) = true := by kernel_rfl
theorem aggrGroup_k5 : ((Rows.aggrGroupRow.stops == [])) = true := by kernel_rfl
theorem aggrGroup_k7 : ((Rows.aggrGroupRow.knobs == [])) = true := by kernel_rfl
theorem aggrGroup_k13 : ((Rows.aggrGroupRow.maps == (Tryz.f11.params.toList ++ Rows.aggrGroupSpec.plain.varTypes Tryz.prog).any (Tryz.prog.mapsRec ·))) = true := by kernel_rfl
theorem aggrGroup_k14 : ((Rows.aggrGroupRow.ifaces == (Tryz.f11.params.toList ++ Rows.aggrGroupSpec.plain.varTypes Tryz.prog).any (Tryz.prog.ifacesRec ·))) = true := by kernel_rfl
theorem aggrGroup_k15 : ((Rows.aggrGroupRow.mapsOut == Tryz.prog.mapsAmong Tryz.f11.resultTypes.toList)) = true := by kernel_rfl
theorem aggrGroup_k16 : ((Rows.aggrGroupRow.loops == (Tryz.f11.params.toList ++ Rows.aggrGroupSpec.plain.varTypes Tryz.prog).any (Tryz.prog.loopsFrom ·))) = true := by kernel_rfl
theorem aggrGroup_k17 : ((Rows.aggrGroupRow.wideKeys == (Tryz.f11.params.toList ++ Rows.aggrGroupSpec.plain.varTypes Tryz.prog ++ Tryz.f11.resultTypes.toList).any (Tryz.prog.wideKeysFrom ·))) = true := by kernel_rfl
theorem aggrGroup_k18 : (Rows.aggrGroupSpec.vars.all (Tryz.prog.varReadable ·)) = true := by kernel_rfl
theorem aggrGroup_k19 : (Tryz.f11.resultTypes.all (fun t => Tryz.prog.readableRec t && decide (t < Tryz.prog.types.size))) = true := by kernel_rfl
theorem aggrGroup_k20 : ((Rows.aggrGroupRow.ifacesOut == Tryz.f11.resultTypes.toList.any (Tryz.prog.ifacesRec ·))) = true := by kernel_rfl
theorem aggrGroup_k21 : ((Rows.aggrGroupRow.loopsOut == Tryz.f11.resultTypes.toList.any (Tryz.prog.loopsFrom ·))) = true := by kernel_rfl
theorem aggrGroup_k22 : ((Rows.aggrGroupRow.plainKeys == Tryz.prog.plainKeys)) = true := by kernel_rfl
theorem aggrGroup_k23 : (Rows.aggrGroupRow.shortTexts.isNone) = true := by kernel_rfl
theorem aggrGroup_k26 : ((Rows.aggrGroupRow.lifted == Tryz.prog.liftsFinal)) = true := by kernel_rfl
theorem aggrGroup_k27 : ((Tryz.prog.make == some Rows.aggrGroupRow.make)) = true := by kernel_rfl
theorem aggrGroup_k28 : ((Rows.aggrGroupRow.kinds == (if Rows.aggrGroupRow.domain.isEmpty then [] else Tryz.f11.params.toList.map fun t => match Tryz.prog.underlying t with | some (.int k) => some k | _ => none))) = true := by kernel_rfl
theorem aggrGroup_k29 : ((Rows.aggrGroupRow.pinned == Rows.aggrGroupRow.pinnedBy)) = true := by kernel_rfl
theorem aggrGroup_k30 : ((Rows.aggrGroupRow.veiled == (Tryz.f11.params.toList ++ Rows.aggrGroupSpec.plain.varTypes Tryz.prog ++ Tryz.f11.resultTypes.toList).any (Tryz.prog.veiledRec ·))) = true := by kernel_rfl
theorem aggrGroup_k31 : (Rows.aggrGroupRow.veiledFits Tryz.prog Tryz.f11.params.toList (Tryz.f11.params.toList ++ Rows.aggrGroupSpec.plain.varTypes Tryz.prog ++ Tryz.f11.resultTypes.toList)) = true := by kernel_rfl
theorem aggrGroup_closed : joinedFacts Tryz.prog 11 Tryz.f11 Rows.aggrGroupSpec Rows.aggrGroupRow = true := and2 (and2 (and2 (and2 (and2 (and2 (and2 (and2 (and2 (and2 (and2 (and2 (and2 (and2 (and2 (and2 (and2 (and2 (and2 (and2 (and2 (and2 (and2 (and2 (and2 (and2 (and2 (and2 (and2 (and2 (and2 (aggrGroup_k0) kp_1) kp_2) aggrGroup_k3) aggrGroup_k4) aggrGroup_k5) kp_6) aggrGroup_k7) kp_8) aggrGroup_k9) aggrGroup_k10) aggrGroup_k11) aggrGroup_k12) aggrGroup_k13) aggrGroup_k14) aggrGroup_k15) aggrGroup_k16) aggrGroup_k17) aggrGroup_k18) aggrGroup_k19) aggrGroup_k20) aggrGroup_k21) aggrGroup_k22) aggrGroup_k23) kp_24) kp_25) aggrGroup_k26) aggrGroup_k27) aggrGroup_k28) aggrGroup_k29) aggrGroup_k30) aggrGroup_k31
end Go.Proofs.YtoncpeadbhgmaaaGreatDoor.G

