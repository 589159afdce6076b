import Derived.Test.YtnljeinfkkeofaaGreatDoorCards
import Derived.Test.YtnljeinfkkeofaaGreatDoorTie
import Derived.JoinedCond
import Derived.KernelRfl
/- Closed facts of the row, by the kernel. -/
set_option maxRecDepth 1000000
namespace Go.Proofs.YtnljeinfkkeofaaGreatDoor
open Go
theorem k13 : (Rows.storeKnownRow.named == Tryz.pinned.checked.prog.varsNamed 3) = true := by kernel_rfl
end Go.Proofs.YtnljeinfkkeofaaGreatDoor
