import Derived.Test.YtohoankmbhlafabGreatDoorE
/- Each of these outcomes is what the evaluator finds. -/
set_option maxRecDepth 1000000
namespace Go.Proofs.YtohoankmbhlafabGreatDoor
open Go Go.Ai AVal
theorem ke22n7220 : chkE (evalA (prg (memoL [])) 1000000 (.call 22 e22n7220.args none e22n7220.h)) e22n7220 = true := by kernel_rfl
theorem ke22n9998 : chkE (evalA (prg (memoL [])) 1000000 (.call 22 e22n9998.args none e22n9998.h)) e22n9998 = true := by kernel_rfl
end Go.Proofs.YtohoankmbhlafabGreatDoor
