import Derived.Test.YtnljeinfkkeofaaGreatDoorE
/- Each of these outcomes is what the evaluator finds. -/
set_option maxRecDepth 1000000
namespace Go.Proofs.YtnljeinfkkeofaaGreatDoor
open Go Go.Ai AVal
theorem ke26n1248 : chkE (evalA (prg (memoL [])) 1000000 (.call 26 e26n1248.args none e26n1248.h)) e26n1248 = true := by kernel_rfl
theorem ke21n2148 : chkE (evalA (prg (memoL [])) 1000000 (.call 21 e21n2148.args none e21n2148.h)) e21n2148 = true := by kernel_rfl
theorem ke26n3285 : chkE (evalA (prg (memoL [])) 1000000 (.call 26 e26n3285.args none e26n3285.h)) e26n3285 = true := by kernel_rfl
theorem ke26n4890 : chkE (evalA (prg (memoL [])) 1000000 (.call 26 e26n4890.args none e26n4890.h)) e26n4890 = true := by kernel_rfl
theorem ke21n7124 : chkE (evalA (prg (memoL [])) 1000000 (.call 21 e21n7124.args none e21n7124.h)) e21n7124 = true := by kernel_rfl
theorem ke26n7871 : chkE (evalA (prg (memoL [])) 1000000 (.call 26 e26n7871.args none e26n7871.h)) e26n7871 = true := by kernel_rfl
theorem ke62n8600 : chkE (evalA (prg (memoL [(21, e21n9052)])) 1000000 (.call 62 e62n8600.args none e62n8600.h)) e62n8600 = true := by kernel_rfl
theorem ke26n10556 : chkE (evalA (prg (memoL [])) 1000000 (.call 26 e26n10556.args none e26n10556.h)) e26n10556 = true := by kernel_rfl
end Go.Proofs.YtnljeinfkkeofaaGreatDoor
