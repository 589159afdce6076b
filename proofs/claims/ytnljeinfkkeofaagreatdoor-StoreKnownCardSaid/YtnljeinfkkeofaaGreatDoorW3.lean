import Derived.Test.YtnljeinfkkeofaaGreatDoorE
/- Each of these outcomes is what the evaluator finds. -/
set_option maxRecDepth 1000000
namespace Go.Proofs.YtnljeinfkkeofaaGreatDoor
open Go Go.Ai AVal
theorem ke21n4012 : chkE (evalA (prg (memoL [])) 1000000 (.call 21 e21n4012.args none e21n4012.h)) e21n4012 = true := by kernel_rfl
theorem ke62n5502 : chkE (evalA (prg (memoL [(21, e21n5954)])) 1000000 (.call 62 e62n5502.args none e62n5502.h)) e62n5502 = true := by kernel_rfl
theorem ke18n3037 : chkE (evalA (prg (memoL [(26, e26n3285), (21, e21n3292), (21, e21n4012), (26, e26n4890), (26, e26n5110), (5, e5n5131)])) 1000000 (.call 18 e18n3037.args none e18n3037.h)) e18n3037 = true := by kernel_rfl
theorem ke5n8258 : chkE (evalA (prg (memoL [(62, e62n8600), (26, e26n9784)])) 1000000 (.call 5 e5n8258.args none e5n8258.h)) e5n8258 = true := by kernel_rfl
end Go.Proofs.YtnljeinfkkeofaaGreatDoor
