import Derived.Test.YtobnfiiladkllaaGreatDoorCards
import Derived.Test.YtobnfiiladkllaaGreatDoorTie
import Derived.JoinedCond
import Derived.KernelRfl
/- Closed facts of the row, by the kernel. -/
set_option maxRecDepth 1000000
namespace Go.Proofs.YtobnfiiladkllaaGreatDoor
open Go
theorem k13 : (Rows.writerKnownRow.named == Tryz.pinned.checked.prog.varsNamed 3) = true := by kernel_rfl
end Go.Proofs.YtobnfiiladkllaaGreatDoor
