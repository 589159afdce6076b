import Derived.Test.YtnljeinfkkeofaaGreatDoorE
/- Each of these outcomes is what the evaluator finds. -/
set_option maxRecDepth 1000000
namespace Go.Proofs.YtnljeinfkkeofaaGreatDoor
open Go Go.Ai AVal
theorem ke21n1256 : chkE (evalA (prg (memoL [])) 1000000 (.call 21 e21n1256.args none e21n1256.h)) e21n1256 = true := by kernel_rfl
theorem ke26n2134 : chkE (evalA (prg (memoL [])) 1000000 (.call 26 e26n2134.args none e26n2134.h)) e26n2134 = true := by kernel_rfl
theorem ke26n5110 : chkE (evalA (prg (memoL [])) 1000000 (.call 26 e26n5110.args none e26n5110.h)) e26n5110 = true := by kernel_rfl
theorem ke21n5954 : chkE (evalA (prg (memoL [])) 1000000 (.call 21 e21n5954.args none e21n5954.h)) e21n5954 = true := by kernel_rfl
theorem ke62n6672 : chkE (evalA (prg (memoL [(21, e21n7124)])) 1000000 (.call 62 e62n6672.args none e62n6672.h)) e62n6672 = true := by kernel_rfl
theorem ke26n9784 : chkE (evalA (prg (memoL [])) 1000000 (.call 26 e26n9784.args none e26n9784.h)) e26n9784 = true := by kernel_rfl
end Go.Proofs.YtnljeinfkkeofaaGreatDoor
