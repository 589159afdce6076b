import Derived.Test.YtohoankmbhlafabGreatDoorE
/- Each of these outcomes is what the evaluator finds. -/
set_option maxRecDepth 1000000
namespace Go.Proofs.YtohoankmbhlafabGreatDoor
open Go Go.Ai AVal
theorem ke22n1015 : chkE (evalA (prg (memoL [])) 1000000 (.call 22 e22n1015.args none e22n1015.h)) e22n1015 = true := by kernel_rfl
theorem ke22n3338 : chkE (evalA (prg (memoL [])) 1000000 (.call 22 e22n3338.args none e22n3338.h)) e22n3338 = true := by kernel_rfl
theorem ke22n3582 : chkE (evalA (prg (memoL [])) 1000000 (.call 22 e22n3582.args none e22n3582.h)) e22n3582 = true := by kernel_rfl
end Go.Proofs.YtohoankmbhlafabGreatDoor
