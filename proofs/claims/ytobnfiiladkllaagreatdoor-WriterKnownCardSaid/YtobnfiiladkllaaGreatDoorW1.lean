import Derived.Test.YtobnfiiladkllaaGreatDoorE
/- Each of these outcomes is what the evaluator finds. -/
set_option maxRecDepth 1000000
namespace Go.Proofs.YtobnfiiladkllaaGreatDoor
open Go Go.Ai AVal
theorem ke44n2744 : chkE (evalA (prg (memoL [])) 1000000 (.call 44 e44n2744.args none e44n2744.h)) e44n2744 = true := by kernel_rfl
theorem ke44n3102 : chkE (evalA (prg (memoL [])) 1000000 (.call 44 e44n3102.args none e44n3102.h)) e44n3102 = true := by kernel_rfl
end Go.Proofs.YtobnfiiladkllaaGreatDoor
