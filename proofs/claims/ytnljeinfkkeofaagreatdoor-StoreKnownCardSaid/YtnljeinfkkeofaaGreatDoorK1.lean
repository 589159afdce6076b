import Derived.Test.YtnljeinfkkeofaaGreatDoorCards
import Derived.Test.YtnljeinfkkeofaaGreatDoorTie
import Derived.JoinedCond
import Derived.KernelRfl
/- Closed facts of the row, by the kernel. -/
set_option maxRecDepth 1000000
namespace Go.Proofs.YtnljeinfkkeofaaGreatDoor
open Go
theorem k11 : (Rows.storeKnownRow.unfollowed == Tryz.pinned.checked.prog.unfollowed 3) = true := by kernel_rfl
theorem k3 : mapsRowed Tryz.pinned.checked.prog = true := by kernel_rfl
end Go.Proofs.YtnljeinfkkeofaaGreatDoor
