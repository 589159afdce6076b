import Derived.Test.YtobnfiiladkllaaGreatDoorE
/- Each of these outcomes is what the evaluator finds. -/
set_option maxRecDepth 1000000
namespace Go.Proofs.YtobnfiiladkllaaGreatDoor
open Go Go.Ai AVal
theorem ke4n1000 : chkE (evalA (prg (memoL [(44, e44n1004), (44, e44n1362)])) 1000000 (.call 4 e4n1000.args none e4n1000.h)) e4n1000 = true := by kernel_rfl
theorem ke44n4381 : chkE (evalA (prg (memoL [])) 1000000 (.call 44 e44n4381.args none e44n4381.h)) e44n4381 = true := by kernel_rfl
theorem ke44n6955 : chkE (evalA (prg (memoL [])) 1000000 (.call 44 e44n6955.args none e44n6955.h)) e44n6955 = true := by kernel_rfl
end Go.Proofs.YtobnfiiladkllaaGreatDoor
