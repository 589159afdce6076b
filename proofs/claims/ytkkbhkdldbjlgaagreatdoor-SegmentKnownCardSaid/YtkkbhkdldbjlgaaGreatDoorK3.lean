import Derived.Test.YtkkbhkdldbjlgaaGreatDoorCards
import Derived.Test.YtkkbhkdldbjlgaaGreatDoorTie
import Derived.JoinedCond
import Derived.KernelRfl
/- Closed facts of the row, by the kernel. -/
set_option maxRecDepth 1000000
namespace Go.Proofs.YtkkbhkdldbjlgaaGreatDoor
open Go
theorem k13 : (Rows.segmentKnownRow.named == Tryz.pinned.checked.prog.varsNamed 3) = true := by kernel_rfl
end Go.Proofs.YtkkbhkdldbjlgaaGreatDoor
