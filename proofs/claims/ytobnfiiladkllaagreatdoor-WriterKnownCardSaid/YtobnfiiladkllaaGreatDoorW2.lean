import Derived.Test.YtobnfiiladkllaaGreatDoorE
/- Each of these outcomes is what the evaluator finds. -/
set_option maxRecDepth 1000000
namespace Go.Proofs.YtobnfiiladkllaaGreatDoor
open Go Go.Ai AVal
theorem ke44n5258 : chkE (evalA (prg (memoL [])) 1000000 (.call 44 e44n5258.args none e44n5258.h)) e44n5258 = true := by kernel_rfl
theorem ke44n6718 : chkE (evalA (prg (memoL [])) 1000000 (.call 44 e44n6718.args none e44n6718.h)) e44n6718 = true := by kernel_rfl
end Go.Proofs.YtobnfiiladkllaaGreatDoor
