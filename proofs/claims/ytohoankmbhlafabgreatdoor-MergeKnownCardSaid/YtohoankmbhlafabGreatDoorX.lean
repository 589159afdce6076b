import Derived.Test.YtohoankmbhlafabGreatDoorW0
import Derived.Test.YtohoankmbhlafabGreatDoorW1
import Derived.Test.YtohoankmbhlafabGreatDoorW2
import Derived.Test.YtohoankmbhlafabGreatDoorW3
/- Calls whose outcome is known: they are so. -/
set_option maxRecDepth 1000000
namespace Go.Proofs.YtohoankmbhlafabGreatDoor
open Go Go.Ai AVal
theorem we22n1015 : EntOk (statOf Tryz.prog tab) 22 e22n1015 := memoEnt_ok (rc (memoL []) (memoL_ok (fun x hx => by cases hx)) 1000000) ke22n1015
theorem we22n2125 : EntOk (statOf Tryz.prog tab) 22 e22n2125 := memoEnt_ok (rc (memoL []) (memoL_ok (fun x hx => by cases hx)) 1000000) ke22n2125
theorem we22n3338 : EntOk (statOf Tryz.prog tab) 22 e22n3338 := memoEnt_ok (rc (memoL []) (memoL_ok (fun x hx => by cases hx)) 1000000) ke22n3338
theorem we22n3582 : EntOk (statOf Tryz.prog tab) 22 e22n3582 := memoEnt_ok (rc (memoL []) (memoL_ok (fun x hx => by cases hx)) 1000000) ke22n3582
theorem we22n4929 : EntOk (statOf Tryz.prog tab) 22 e22n4929 := memoEnt_ok (rc (memoL []) (memoL_ok (fun x hx => by cases hx)) 1000000) ke22n4929
theorem we22n6110 : EntOk (statOf Tryz.prog tab) 22 e22n6110 := memoEnt_ok (rc (memoL []) (memoL_ok (fun x hx => by cases hx)) 1000000) ke22n6110
theorem we22n7220 : EntOk (statOf Tryz.prog tab) 22 e22n7220 := memoEnt_ok (rc (memoL []) (memoL_ok (fun x hx => by cases hx)) 1000000) ke22n7220
theorem we22n8491 : EntOk (statOf Tryz.prog tab) 22 e22n8491 := memoEnt_ok (rc (memoL []) (memoL_ok (fun x hx => by cases hx)) 1000000) ke22n8491
theorem we22n9998 : EntOk (statOf Tryz.prog tab) 22 e22n9998 := memoEnt_ok (rc (memoL []) (memoL_ok (fun x hx => by cases hx)) 1000000) ke22n9998
theorem we10n6095 : EntOk (statOf Tryz.prog tab) 10 e10n6095 := memoEnt_ok (rc (memoL [(22, e22n6110), (22, e22n7220), (22, e22n8491), (22, e22n9998)]) (memoL_ok (by
  intro x hx
  rcases List.mem_cons.1 hx with rfl | hx
  · exact we22n6110
  rcases List.mem_cons.1 hx with rfl | hx
  · exact we22n7220
  rcases List.mem_cons.1 hx with rfl | hx
  · exact we22n8491
  rcases List.mem_cons.1 hx with rfl | hx
  · exact we22n9998
  cases hx)) 1000000) ke10n6095
noncomputable def top : List (Nat × Ent) := [(22, e22n1015), (22, e22n2125), (22, e22n3338), (22, e22n3582), (22, e22n4929), (10, e10n6095)]
theorem top_ok : ∀ x ∈ top, EntOk (statOf Tryz.prog tab) x.1 x.2 := by
  intro x hx
  unfold top at hx
  rcases List.mem_cons.1 hx with rfl | hx
  · exact we22n1015
  rcases List.mem_cons.1 hx with rfl | hx
  · exact we22n2125
  rcases List.mem_cons.1 hx with rfl | hx
  · exact we22n3338
  rcases List.mem_cons.1 hx with rfl | hx
  · exact we22n3582
  rcases List.mem_cons.1 hx with rfl | hx
  · exact we22n4929
  rcases List.mem_cons.1 hx with rfl | hx
  · exact we10n6095
  cases hx
end Go.Proofs.YtohoankmbhlafabGreatDoor
