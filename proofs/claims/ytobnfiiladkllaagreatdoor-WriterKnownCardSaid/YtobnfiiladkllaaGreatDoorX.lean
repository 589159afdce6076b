import Derived.Test.YtobnfiiladkllaaGreatDoorW0
import Derived.Test.YtobnfiiladkllaaGreatDoorW1
import Derived.Test.YtobnfiiladkllaaGreatDoorW2
import Derived.Test.YtobnfiiladkllaaGreatDoorW3
/- Calls whose outcome is known: they are so. -/
set_option maxRecDepth 1000000
namespace Go.Proofs.YtobnfiiladkllaaGreatDoor
open Go Go.Ai AVal
theorem we44n1004 : EntOk (statOf Tryz.prog tab) 44 e44n1004 := memoEnt_ok (rc (memoL []) (memoL_ok (fun x hx => by cases hx)) 1000000) ke44n1004
theorem we44n1362 : EntOk (statOf Tryz.prog tab) 44 e44n1362 := memoEnt_ok (rc (memoL []) (memoL_ok (fun x hx => by cases hx)) 1000000) ke44n1362
theorem we4n1000 : EntOk (statOf Tryz.prog tab) 4 e4n1000 := memoEnt_ok (rc (memoL [(44, e44n1004), (44, e44n1362)]) (memoL_ok (by
  intro x hx
  rcases List.mem_cons.1 hx with rfl | hx
  · exact we44n1004
  rcases List.mem_cons.1 hx with rfl | hx
  · exact we44n1362
  cases hx)) 1000000) ke4n1000
theorem we44n2744 : EntOk (statOf Tryz.prog tab) 44 e44n2744 := memoEnt_ok (rc (memoL []) (memoL_ok (fun x hx => by cases hx)) 1000000) ke44n2744
theorem we44n3102 : EntOk (statOf Tryz.prog tab) 44 e44n3102 := memoEnt_ok (rc (memoL []) (memoL_ok (fun x hx => by cases hx)) 1000000) ke44n3102
theorem we44n4381 : EntOk (statOf Tryz.prog tab) 44 e44n4381 := memoEnt_ok (rc (memoL []) (memoL_ok (fun x hx => by cases hx)) 1000000) ke44n4381
theorem we44n5258 : EntOk (statOf Tryz.prog tab) 44 e44n5258 := memoEnt_ok (rc (memoL []) (memoL_ok (fun x hx => by cases hx)) 1000000) ke44n5258
theorem we44n6718 : EntOk (statOf Tryz.prog tab) 44 e44n6718 := memoEnt_ok (rc (memoL []) (memoL_ok (fun x hx => by cases hx)) 1000000) ke44n6718
theorem we44n6955 : EntOk (statOf Tryz.prog tab) 44 e44n6955 := memoEnt_ok (rc (memoL []) (memoL_ok (fun x hx => by cases hx)) 1000000) ke44n6955
noncomputable def top : List (Nat × Ent) := [(4, e4n1000), (44, e44n2744), (44, e44n3102), (44, e44n4381), (44, e44n5258), (44, e44n6718), (44, e44n6955)]
theorem top_ok : ∀ x ∈ top, EntOk (statOf Tryz.prog tab) x.1 x.2 := by
  intro x hx
  unfold top at hx
  rcases List.mem_cons.1 hx with rfl | hx
  · exact we4n1000
  rcases List.mem_cons.1 hx with rfl | hx
  · exact we44n2744
  rcases List.mem_cons.1 hx with rfl | hx
  · exact we44n3102
  rcases List.mem_cons.1 hx with rfl | hx
  · exact we44n4381
  rcases List.mem_cons.1 hx with rfl | hx
  · exact we44n5258
  rcases List.mem_cons.1 hx with rfl | hx
  · exact we44n6718
  rcases List.mem_cons.1 hx with rfl | hx
  · exact we44n6955
  cases hx
end Go.Proofs.YtobnfiiladkllaaGreatDoor
