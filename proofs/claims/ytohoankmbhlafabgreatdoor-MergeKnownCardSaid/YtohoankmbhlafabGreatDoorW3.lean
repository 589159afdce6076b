import Derived.Test.YtohoankmbhlafabGreatDoorE
/- Each of these outcomes is what the evaluator finds. -/
set_option maxRecDepth 1000000
namespace Go.Proofs.YtohoankmbhlafabGreatDoor
open Go Go.Ai AVal
theorem ke22n2125 : chkE (evalA (prg (memoL [])) 1000000 (.call 22 e22n2125.args none e22n2125.h)) e22n2125 = true := by kernel_rfl
theorem ke22n4929 : chkE (evalA (prg (memoL [])) 1000000 (.call 22 e22n4929.args none e22n4929.h)) e22n4929 = true := by kernel_rfl
theorem ke10n6095 : chkE (evalA (prg (memoL [(22, e22n6110), (22, e22n7220), (22, e22n8491), (22, e22n9998)])) 1000000 (.call 10 e10n6095.args none e10n6095.h)) e10n6095 = true := by kernel_rfl
end Go.Proofs.YtohoankmbhlafabGreatDoor
