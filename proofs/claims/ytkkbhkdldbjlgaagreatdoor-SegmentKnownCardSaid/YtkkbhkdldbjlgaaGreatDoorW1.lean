import Derived.Test.YtkkbhkdldbjlgaaGreatDoorE
/- Each of these outcomes is what the evaluator finds. -/
set_option maxRecDepth 1000000
namespace Go.Proofs.YtkkbhkdldbjlgaaGreatDoor
open Go Go.Ai AVal
theorem ke8n2573 : chkE (evalA (prg (memoL [])) 1000000 (.call 8 e8n2573.args none e8n2573.h)) e8n2573 = true := by kernel_rfl
theorem ke8n3999 : chkE (evalA (prg (memoL [])) 1000000 (.call 8 e8n3999.args none e8n3999.h)) e8n3999 = true := by kernel_rfl
theorem ke14n8842 : chkE (evalA (prg (memoL [(8, e8n9030)])) 1000000 (.call 14 e14n8842.args none e14n8842.h)) e14n8842 = true := by kernel_rfl
end Go.Proofs.YtkkbhkdldbjlgaaGreatDoor
