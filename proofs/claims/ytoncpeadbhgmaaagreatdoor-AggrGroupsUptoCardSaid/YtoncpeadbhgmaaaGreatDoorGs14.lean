/- Parts of the proof of AggrGroups. -/
import Derived.JoinedOf
import Derived.KernelRfl
import Derived.ProofKit
import Derived.Test.YtoncpeadbhgmaaaGreatDoorChecked
import Derived.Test.YtoncpeadbhgmaaaGreatDoorGs12
import Derived.Test.YtoncpeadbhgmaaaGreatDoorProg
import Derived.Test.YtoncpeadbhgmaaaGreatDoorRows
set_option linter.unusedVariables false
set_option maxRecDepth 100000
namespace Go.Proofs.YtoncpeadbhgmaaaGreatDoor.G
open Go.RowKit
theorem aggrGroupsUpto_k10 : ((Rows.aggrGroupsUptoRow.unfollowed == Tryz.prog.unfollowed 10)) = true := by kernel_rfl
end Go.Proofs.YtoncpeadbhgmaaaGreatDoor.G

