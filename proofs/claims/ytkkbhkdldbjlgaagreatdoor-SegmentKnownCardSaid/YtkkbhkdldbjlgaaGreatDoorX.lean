import Derived.Test.YtkkbhkdldbjlgaaGreatDoorW0
import Derived.Test.YtkkbhkdldbjlgaaGreatDoorW1
import Derived.Test.YtkkbhkdldbjlgaaGreatDoorW2
import Derived.Test.YtkkbhkdldbjlgaaGreatDoorW3
/- Calls whose outcome is known: they are so. -/
set_option maxRecDepth 1000000
namespace Go.Proofs.YtkkbhkdldbjlgaaGreatDoor
open Go Go.Ai AVal
theorem we8n1005 : EntOk (statOf Tryz.prog tab) 8 e8n1005 := memoEnt_ok (rc (memoL []) (memoL_ok (fun x hx => by cases hx)) 1000000) ke8n1005
theorem we5n1000 : EntOk (statOf Tryz.prog tab) 5 e5n1000 := memoEnt_ok (rc (memoL [(8, e8n1005)]) (memoL_ok (by
  intro x hx
  rcases List.mem_cons.1 hx with rfl | hx
  · exact we8n1005
  cases hx)) 1000000) ke5n1000
theorem we4n1000 : EntOk (statOf Tryz.prog tab) 4 e4n1000 := memoEnt_ok (rc (memoL [(5, e5n1000)]) (memoL_ok (by
  intro x hx
  rcases List.mem_cons.1 hx with rfl | hx
  · exact we5n1000
  cases hx)) 1000000) ke4n1000
theorem we8n2573 : EntOk (statOf Tryz.prog tab) 8 e8n2573 := memoEnt_ok (rc (memoL []) (memoL_ok (fun x hx => by cases hx)) 1000000) ke8n2573
theorem we5n2568 : EntOk (statOf Tryz.prog tab) 5 e5n2568 := memoEnt_ok (rc (memoL [(8, e8n2573)]) (memoL_ok (by
  intro x hx
  rcases List.mem_cons.1 hx with rfl | hx
  · exact we8n2573
  cases hx)) 1000000) ke5n2568
theorem we8n3999 : EntOk (statOf Tryz.prog tab) 8 e8n3999 := memoEnt_ok (rc (memoL []) (memoL_ok (fun x hx => by cases hx)) 1000000) ke8n3999
theorem we8n5150 : EntOk (statOf Tryz.prog tab) 8 e8n5150 := memoEnt_ok (rc (memoL []) (memoL_ok (fun x hx => by cases hx)) 1000000) ke8n5150
theorem we14n4332 : EntOk (statOf Tryz.prog tab) 14 e14n4332 := memoEnt_ok (rc (memoL [(8, e8n5150)]) (memoL_ok (by
  intro x hx
  rcases List.mem_cons.1 hx with rfl | hx
  · exact we8n5150
  cases hx)) 1000000) ke14n4332
theorem we8n7434 : EntOk (statOf Tryz.prog tab) 8 e8n7434 := memoEnt_ok (rc (memoL []) (memoL_ok (fun x hx => by cases hx)) 1000000) ke8n7434
theorem we14n6616 : EntOk (statOf Tryz.prog tab) 14 e14n6616 := memoEnt_ok (rc (memoL [(8, e8n7434)]) (memoL_ok (by
  intro x hx
  rcases List.mem_cons.1 hx with rfl | hx
  · exact we8n7434
  cases hx)) 1000000) ke14n6616
theorem we8n9030 : EntOk (statOf Tryz.prog tab) 8 e8n9030 := memoEnt_ok (rc (memoL []) (memoL_ok (fun x hx => by cases hx)) 1000000) ke8n9030
theorem we14n8842 : EntOk (statOf Tryz.prog tab) 14 e14n8842 := memoEnt_ok (rc (memoL [(8, e8n9030)]) (memoL_ok (by
  intro x hx
  rcases List.mem_cons.1 hx with rfl | hx
  · exact we8n9030
  cases hx)) 1000000) ke14n8842
noncomputable def top : List (Nat × Ent) := [(4, e4n1000), (5, e5n2568), (8, e8n3999), (14, e14n4332), (14, e14n6616), (14, e14n8842)]
theorem top_ok : ∀ x ∈ top, EntOk (statOf Tryz.prog tab) x.1 x.2 := by
  intro x hx
  unfold top at hx
  rcases List.mem_cons.1 hx with rfl | hx
  · exact we4n1000
  rcases List.mem_cons.1 hx with rfl | hx
  · exact we5n2568
  rcases List.mem_cons.1 hx with rfl | hx
  · exact we8n3999
  rcases List.mem_cons.1 hx with rfl | hx
  · exact we14n4332
  rcases List.mem_cons.1 hx with rfl | hx
  · exact we14n6616
  rcases List.mem_cons.1 hx with rfl | hx
  · exact we14n8842
  cases hx
end Go.Proofs.YtkkbhkdldbjlgaaGreatDoor
