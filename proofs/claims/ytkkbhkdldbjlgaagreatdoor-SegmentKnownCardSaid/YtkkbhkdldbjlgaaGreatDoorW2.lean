import Derived.Test.YtkkbhkdldbjlgaaGreatDoorE
/- Each of these outcomes is what the evaluator finds. -/
set_option maxRecDepth 1000000
namespace Go.Proofs.YtkkbhkdldbjlgaaGreatDoor
open Go Go.Ai AVal
theorem ke5n1000 : chkE (evalA (prg (memoL [(8, e8n1005)])) 1000000 (.call 5 e5n1000.args none e5n1000.h)) e5n1000 = true := by kernel_rfl
theorem ke4n1000 : chkE (evalA (prg (memoL [(5, e5n1000)])) 1000000 (.call 4 e4n1000.args none e4n1000.h)) e4n1000 = true := by kernel_rfl
theorem ke5n2568 : chkE (evalA (prg (memoL [(8, e8n2573)])) 1000000 (.call 5 e5n2568.args none e5n2568.h)) e5n2568 = true := by kernel_rfl
theorem ke8n5150 : chkE (evalA (prg (memoL [])) 1000000 (.call 8 e8n5150.args none e8n5150.h)) e8n5150 = true := by kernel_rfl
theorem ke8n9030 : chkE (evalA (prg (memoL [])) 1000000 (.call 8 e8n9030.args none e8n9030.h)) e8n9030 = true := by kernel_rfl
end Go.Proofs.YtkkbhkdldbjlgaaGreatDoor
