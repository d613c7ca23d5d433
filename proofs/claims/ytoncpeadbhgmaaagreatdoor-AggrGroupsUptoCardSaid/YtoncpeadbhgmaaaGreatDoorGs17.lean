/- Parts of the proof of AggrGroups. -/
import Derived.JoinedOf
import Derived.KernelRfl
import Derived.ProofKit
import Derived.Test.YtoncpeadbhgmaaaGreatDoorChecked
import Derived.Test.YtoncpeadbhgmaaaGreatDoorGs12
import Derived.Test.YtoncpeadbhgmaaaGreatDoorGs13
import Derived.Test.YtoncpeadbhgmaaaGreatDoorGs14
import Derived.Test.YtoncpeadbhgmaaaGreatDoorGs15
import Derived.Test.YtoncpeadbhgmaaaGreatDoorGs16
import Derived.Test.YtoncpeadbhgmaaaGreatDoorProg
import Derived.Test.YtoncpeadbhgmaaaGreatDoorRows
set_option linter.unusedVariables false
set_option maxRecDepth 100000
namespace Go.Proofs.YtoncpeadbhgmaaaGreatDoor.G
open Go.RowKit
theorem aggrGroupsUpto_k0 : (Rows.aggrGroupsUptoRow.wf (OpenSpec.ofChange Rows.aggrGroupsSpec)) = true := by kernel_rfl
theorem aggrGroupsUpto_k3 : (Tryz.f10.params.all (Tryz.prog.readableRec ·)) = true := by kernel_rfl
theorem aggrGroupsUpto_k4 : (namedTie Tryz.prog Rows.aggrGroupsUptoRow.named Rows.aggrGroupsSpec.vars) = true := by kernel_rfl
theorem aggrGroupsUpto_k5 : ((Rows.aggrGroupsUptoRow.stops == [])) = true := by kernel_rfl
theorem aggrGroupsUpto_k7 : ((Rows.aggrGroupsUptoRow.knobs == [])) = true := by kernel_rfl
theorem aggrGroupsUpto_k13 : ((Rows.aggrGroupsUptoRow.maps == (Tryz.f10.params.toList ++ Rows.aggrGroupsSpec.plain.varTypes Tryz.prog).any (Tryz.prog.mapsRec ·))) = true := by kernel_rfl
theorem aggrGroupsUpto_k14 : ((Rows.aggrGroupsUptoRow.ifaces == (Tryz.f10.params.toList ++ Rows.aggrGroupsSpec.plain.varTypes Tryz.prog).any (Tryz.prog.ifacesRec ·))) = true := by kernel_rfl
theorem aggrGroupsUpto_k15 : ((Rows.aggrGroupsUptoRow.mapsOut == Tryz.prog.mapsAmong Tryz.f10.resultTypes.toList)) = true := by kernel_rfl
theorem aggrGroupsUpto_k16 : ((Rows.aggrGroupsUptoRow.loops == (Tryz.f10.params.toList ++ Rows.aggrGroupsSpec.plain.varTypes Tryz.prog).any (Tryz.prog.loopsFrom ·))) = true := by kernel_rfl
theorem aggrGroupsUpto_k17 : ((Rows.aggrGroupsUptoRow.wideKeys == (Tryz.f10.params.toList ++ Rows.aggrGroupsSpec.plain.varTypes Tryz.prog ++ Tryz.f10.resultTypes.toList).any (Tryz.prog.wideKeysFrom ·))) = true := by kernel_rfl
theorem aggrGroupsUpto_k18 : (Rows.aggrGroupsSpec.vars.all (Tryz.prog.varReadable ·)) = true := by kernel_rfl
theorem aggrGroupsUpto_k19 : (Tryz.f10.resultTypes.all (fun t => Tryz.prog.readableRec t && decide (t < Tryz.prog.types.size))) = true := by kernel_rfl
theorem aggrGroupsUpto_k20 : ((Rows.aggrGroupsUptoRow.ifacesOut == Tryz.f10.resultTypes.toList.any (Tryz.prog.ifacesRec ·))) = true := by kernel_rfl
theorem aggrGroupsUpto_k21 : ((Rows.aggrGroupsUptoRow.loopsOut == Tryz.f10.resultTypes.toList.any (Tryz.prog.loopsFrom ·))) = true := by kernel_rfl
theorem aggrGroupsUpto_k22 : ((Rows.aggrGroupsUptoRow.plainKeys == Tryz.prog.plainKeys)) = true := by kernel_rfl
theorem aggrGroupsUpto_k23 : (Rows.aggrGroupsUptoRow.shortTexts.isNone) = true := by kernel_rfl
theorem aggrGroupsUpto_k26 : ((Rows.aggrGroupsUptoRow.lifted == Tryz.prog.liftsFinal)) = true := by kernel_rfl
theorem aggrGroupsUpto_k27 : ((Tryz.prog.make == some Rows.aggrGroupsUptoRow.make)) = true := by kernel_rfl
theorem aggrGroupsUpto_k28 : ((Rows.aggrGroupsUptoRow.kinds == (if Rows.aggrGroupsUptoRow.domain.isEmpty then [] else Tryz.f10.params.toList.map fun t => match Tryz.prog.underlying t with | some (.int k) => some k | _ => none))) = true := by kernel_rfl
theorem aggrGroupsUpto_k29 : ((Rows.aggrGroupsUptoRow.pinned == Rows.aggrGroupsUptoRow.pinnedBy)) = true := by kernel_rfl
theorem aggrGroupsUpto_k30 : ((Rows.aggrGroupsUptoRow.veiled == (Tryz.f10.params.toList ++ Rows.aggrGroupsSpec.plain.varTypes Tryz.prog ++ Tryz.f10.resultTypes.toList).any (Tryz.prog.veiledRec ·))) = true := by kernel_rfl
theorem aggrGroupsUpto_k31 : (Rows.aggrGroupsUptoRow.veiledFits Tryz.prog Tryz.f10.params.toList (Tryz.f10.params.toList ++ Rows.aggrGroupsSpec.plain.varTypes Tryz.prog ++ Tryz.f10.resultTypes.toList)) = true := by kernel_rfl
theorem aggrGroupsUpto_closed : joinedFacts Tryz.prog 10 Tryz.f10 Rows.aggrGroupsSpec Rows.aggrGroupsUptoRow = true := and2 (and2 (and2 (and2 (and2 (and2 (and2 (and2 (and2 (and2 (and2 (and2 (and2 (and2 (and2 (and2 (and2 (and2 (and2 (and2 (and2 (and2 (and2 (and2 (and2 (and2 (and2 (and2 (and2 (and2 (and2 (aggrGroupsUpto_k0) kp_1) kp_2) aggrGroupsUpto_k3) aggrGroupsUpto_k4) aggrGroupsUpto_k5) kp_6) aggrGroupsUpto_k7) kp_8) aggrGroupsUpto_k9) aggrGroupsUpto_k10) aggrGroupsUpto_k11) aggrGroupsUpto_k12) aggrGroupsUpto_k13) aggrGroupsUpto_k14) aggrGroupsUpto_k15) aggrGroupsUpto_k16) aggrGroupsUpto_k17) aggrGroupsUpto_k18) aggrGroupsUpto_k19) aggrGroupsUpto_k20) aggrGroupsUpto_k21) aggrGroupsUpto_k22) aggrGroupsUpto_k23) kp_24) kp_25) aggrGroupsUpto_k26) aggrGroupsUpto_k27) aggrGroupsUpto_k28) aggrGroupsUpto_k29) aggrGroupsUpto_k30) aggrGroupsUpto_k31
end Go.Proofs.YtoncpeadbhgmaaaGreatDoor.G

