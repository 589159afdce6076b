import Derived.Test.YtobnfiiladkllaaGreatDoorE
/- Each of these outcomes is what the evaluator finds. -/
set_option maxRecDepth 1000000
namespace Go.Proofs.YtobnfiiladkllaaGreatDoor
open Go Go.Ai AVal
theorem ke44n1004 : chkE (evalA (prg (memoL [])) 1000000 (.call 44 e44n1004.args none e44n1004.h)) e44n1004 = true := by kernel_rfl
theorem ke44n1362 : chkE (evalA (prg (memoL [])) 1000000 (.call 44 e44n1362.args none e44n1362.h)) e44n1362 = true := by kernel_rfl
end Go.Proofs.YtobnfiiladkllaaGreatDoor
