import Derived.Test.YtohoankmbhlafabGreatDoorE
/- Each of these outcomes is what the evaluator finds. -/
set_option maxRecDepth 1000000
namespace Go.Proofs.YtohoankmbhlafabGreatDoor
open Go Go.Ai AVal
theorem ke22n6110 : chkE (evalA (prg (memoL [])) 1000000 (.call 22 e22n6110.args none e22n6110.h)) e22n6110 = true := by kernel_rfl
theorem ke22n8491 : chkE (evalA (prg (memoL [])) 1000000 (.call 22 e22n8491.args none e22n8491.h)) e22n8491 = true := by kernel_rfl
end Go.Proofs.YtohoankmbhlafabGreatDoor
