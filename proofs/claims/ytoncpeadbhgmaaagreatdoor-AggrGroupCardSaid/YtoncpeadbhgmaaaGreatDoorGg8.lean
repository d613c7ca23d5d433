/- Parts of the proof of AggrGroup. -/
import Derived.JoinedOf
import Derived.KernelRfl
import Derived.ProofKit
import Derived.Test.YtoncpeadbhgmaaaGreatDoorChecked
import Derived.Test.YtoncpeadbhgmaaaGreatDoorGg7
import Derived.Test.YtoncpeadbhgmaaaGreatDoorProg
import Derived.Test.YtoncpeadbhgmaaaGreatDoorRows
set_option linter.unusedVariables false
set_option maxRecDepth 100000
namespace Go.Proofs.YtoncpeadbhgmaaaGreatDoor.G
open Go.RowKit
theorem aggrGroup_k9 : ((Rows.aggrGroupRow.inPlace == Tryz.prog.inPlace 11)) = true := by kernel_rfl
end Go.Proofs.YtoncpeadbhgmaaaGreatDoor.G

