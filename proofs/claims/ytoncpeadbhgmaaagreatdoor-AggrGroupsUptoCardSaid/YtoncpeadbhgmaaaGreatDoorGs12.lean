/- Parts of the proof of AggrGroups. -/
import Derived.KernelRfl
import Derived.ProofKit
import Derived.Test.YtoncpeadbhgmaaaGreatDoorProg
import Derived.Test.YtoncpeadbhgmaaaGreatDoorRows
set_option linter.unusedVariables false
set_option maxRecDepth 100000
namespace Go.Proofs.YtoncpeadbhgmaaaGreatDoor.G
open Go.RowKit
theorem kp_1 : (laidOutB Tryz.prog) = true := by kernel_rfl
theorem kp_2 : (mapsRowed Tryz.prog) = true := by kernel_rfl
theorem kp_6 : ((Tryz.prog.stops == [])) = true := by kernel_rfl
theorem kp_8 : ((Tryz.prog.stopKnobs == [])) = true := by kernel_rfl
theorem kp_24 : (Tryz.prog.stopsHeard) = true := by kernel_rfl
theorem kp_25 : (Tryz.prog.mayEnter) = true := by kernel_rfl
theorem and2 {a b : Bool} (h : a = true) (k : b = true) : (a && b) = true := by rw [h, k]; rfl
end Go.Proofs.YtoncpeadbhgmaaaGreatDoor.G

