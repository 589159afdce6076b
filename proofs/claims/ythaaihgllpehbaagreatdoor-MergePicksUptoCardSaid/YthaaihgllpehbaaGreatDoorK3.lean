import Derived.Test.YthaaihgllpehbaaGreatDoorCards
import Derived.Test.YthaaihgllpehbaaGreatDoorTie
import Derived.JoinedCond
import Derived.KernelRfl
/- Closed facts of the row, by the kernel. -/
set_option maxRecDepth 1000000
namespace Go.Proofs.YthaaihgllpehbaaGreatDoor
open Go
theorem k13 : (Rows.mergePicksUptoRow.named == Tryz.pinned.checked.prog.varsNamed 3) = true := by kernel_rfl
end Go.Proofs.YthaaihgllpehbaaGreatDoor
