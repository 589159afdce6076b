import Derived.Test.YtobnfiiladkllaaGreatDoorCards
import Derived.Test.YtobnfiiladkllaaGreatDoorTie
import Derived.JoinedCond
import Derived.KernelRfl
/- Closed facts of the row, by the kernel. -/
set_option maxRecDepth 1000000
namespace Go.Proofs.YtobnfiiladkllaaGreatDoor
open Go
theorem k12 : (Rows.writerKnownRow.recurses == Tryz.pinned.checked.prog.recurses 3) = true := by kernel_rfl
end Go.Proofs.YtobnfiiladkllaaGreatDoor
