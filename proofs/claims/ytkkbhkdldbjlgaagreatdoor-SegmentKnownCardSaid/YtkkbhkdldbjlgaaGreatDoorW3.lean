import Derived.Test.YtkkbhkdldbjlgaaGreatDoorE
/- Each of these outcomes is what the evaluator finds. -/
set_option maxRecDepth 1000000
namespace Go.Proofs.YtkkbhkdldbjlgaaGreatDoor
open Go Go.Ai AVal
theorem ke14n4332 : chkE (evalA (prg (memoL [(8, e8n5150)])) 1000000 (.call 14 e14n4332.args none e14n4332.h)) e14n4332 = true := by kernel_rfl
theorem ke8n7434 : chkE (evalA (prg (memoL [])) 1000000 (.call 8 e8n7434.args none e8n7434.h)) e8n7434 = true := by kernel_rfl
end Go.Proofs.YtkkbhkdldbjlgaaGreatDoor
