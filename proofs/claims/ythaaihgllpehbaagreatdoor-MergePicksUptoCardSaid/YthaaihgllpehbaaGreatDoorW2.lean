import Derived.Test.YthaaihgllpehbaaGreatDoorE
/- Each of these outcomes is what the evaluator finds. -/
set_option maxRecDepth 1000000
namespace Go.Proofs.YthaaihgllpehbaaGreatDoor
open Go Go.Ai AVal
theorem ke23n1015 : chkE (evalA (prg (memoL [])) 1000000 (.call 23 e23n1015.args none e23n1015.h)) e23n1015 = true := by kernel_rfl
theorem ke12n3228 : chkE (evalA (prg (memoL [(23, e23n3396)])) 1000000 (.call 12 e12n3228.args none e12n3228.h)) e12n3228 = true := by kernel_rfl
end Go.Proofs.YthaaihgllpehbaaGreatDoor
