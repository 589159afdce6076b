import Derived.Test.YtnljeinfkkeofaaGreatDoorE
/- Each of these outcomes is what the evaluator finds. -/
set_option maxRecDepth 1000000
namespace Go.Proofs.YtnljeinfkkeofaaGreatDoor
open Go Go.Ai AVal
theorem ke21n3292 : chkE (evalA (prg (memoL [])) 1000000 (.call 21 e21n3292.args none e21n3292.h)) e21n3292 = true := by kernel_rfl
theorem ke5n5131 : chkE (evalA (prg (memoL [(62, e62n5502), (62, e62n6672), (26, e26n7871)])) 1000000 (.call 5 e5n5131.args none e5n5131.h)) e5n5131 = true := by kernel_rfl
theorem ke5n7916 : chkE (evalA (prg (memoL [])) 1000000 (.call 5 e5n7916.args none e5n7916.h)) e5n7916 = true := by kernel_rfl
theorem ke21n9052 : chkE (evalA (prg (memoL [])) 1000000 (.call 21 e21n9052.args none e21n9052.h)) e21n9052 = true := by kernel_rfl
end Go.Proofs.YtnljeinfkkeofaaGreatDoor
