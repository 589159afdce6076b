import Derived.Test.YtkkbhkdldbjlgaaGreatDoorE
/- Each of these outcomes is what the evaluator finds. -/
set_option maxRecDepth 1000000
namespace Go.Proofs.YtkkbhkdldbjlgaaGreatDoor
open Go Go.Ai AVal
theorem ke8n1005 : chkE (evalA (prg (memoL [])) 1000000 (.call 8 e8n1005.args none e8n1005.h)) e8n1005 = true := by kernel_rfl
theorem ke14n6616 : chkE (evalA (prg (memoL [(8, e8n7434)])) 1000000 (.call 14 e14n6616.args none e14n6616.h)) e14n6616 = true := by kernel_rfl
end Go.Proofs.YtkkbhkdldbjlgaaGreatDoor
