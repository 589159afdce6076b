import Derived.Test.YthaaihgllpehbaaGreatDoorE
/- Each of these outcomes is what the evaluator finds. -/
set_option maxRecDepth 1000000
namespace Go.Proofs.YthaaihgllpehbaaGreatDoor
open Go Go.Ai AVal
theorem ke23n3396 : chkE (evalA (prg (memoL [])) 1000000 (.call 23 e23n3396.args none e23n3396.h)) e23n3396 = true := by kernel_rfl
end Go.Proofs.YthaaihgllpehbaaGreatDoor
