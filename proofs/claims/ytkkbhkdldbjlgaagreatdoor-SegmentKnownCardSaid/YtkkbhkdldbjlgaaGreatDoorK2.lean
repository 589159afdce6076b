import Derived.Test.YtkkbhkdldbjlgaaGreatDoorCards
import Derived.Test.YtkkbhkdldbjlgaaGreatDoorTie
import Derived.JoinedCond
import Derived.KernelRfl
/- Closed facts of the row, by the kernel. -/
set_option maxRecDepth 1000000
namespace Go.Proofs.YtkkbhkdldbjlgaaGreatDoor
open Go
theorem k12 : (Rows.segmentKnownRow.recurses == Tryz.pinned.checked.prog.recurses 3) = true := by kernel_rfl
end Go.Proofs.YtkkbhkdldbjlgaaGreatDoor
