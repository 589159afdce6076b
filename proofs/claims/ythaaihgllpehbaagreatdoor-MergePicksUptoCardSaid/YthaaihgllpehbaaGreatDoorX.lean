import Derived.Test.YthaaihgllpehbaaGreatDoorW0
import Derived.Test.YthaaihgllpehbaaGreatDoorW1
import Derived.Test.YthaaihgllpehbaaGreatDoorW2
import Derived.Test.YthaaihgllpehbaaGreatDoorW3
/- Calls whose outcome is known: they are so. -/
set_option maxRecDepth 1000000
namespace Go.Proofs.YthaaihgllpehbaaGreatDoor
open Go Go.Ai AVal
theorem we23n1015 : EntOk (statOf Tryz.prog tab) 23 e23n1015 := memoEnt_ok (rc (memoL []) (memoL_ok (fun x hx => by cases hx)) 1000000) ke23n1015
theorem we23n2125 : EntOk (statOf Tryz.prog tab) 23 e23n2125 := memoEnt_ok (rc (memoL []) (memoL_ok (fun x hx => by cases hx)) 1000000) ke23n2125
theorem we23n3396 : EntOk (statOf Tryz.prog tab) 23 e23n3396 := memoEnt_ok (rc (memoL []) (memoL_ok (fun x hx => by cases hx)) 1000000) ke23n3396
theorem we12n3228 : EntOk (statOf Tryz.prog tab) 12 e12n3228 := memoEnt_ok (rc (memoL [(23, e23n3396)]) (memoL_ok (by
  intro x hx
  rcases List.mem_cons.1 hx with rfl | hx
  · exact we23n3396
  cases hx)) 1000000) ke12n3228
theorem we23n4903 : EntOk (statOf Tryz.prog tab) 23 e23n4903 := memoEnt_ok (rc (memoL []) (memoL_ok (fun x hx => by cases hx)) 1000000) ke23n4903
noncomputable def top : List (Nat × Ent) := [(23, e23n1015), (23, e23n2125), (12, e12n3228), (23, e23n4903)]
theorem top_ok : ∀ x ∈ top, EntOk (statOf Tryz.prog tab) x.1 x.2 := by
  intro x hx
  unfold top at hx
  rcases List.mem_cons.1 hx with rfl | hx
  · exact we23n1015
  rcases List.mem_cons.1 hx with rfl | hx
  · exact we23n2125
  rcases List.mem_cons.1 hx with rfl | hx
  · exact we12n3228
  rcases List.mem_cons.1 hx with rfl | hx
  · exact we23n4903
  cases hx
end Go.Proofs.YthaaihgllpehbaaGreatDoor
