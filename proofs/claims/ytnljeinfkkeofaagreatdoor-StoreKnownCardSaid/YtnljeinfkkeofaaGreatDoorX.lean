import Derived.Test.YtnljeinfkkeofaaGreatDoorW0
import Derived.Test.YtnljeinfkkeofaaGreatDoorW1
import Derived.Test.YtnljeinfkkeofaaGreatDoorW2
import Derived.Test.YtnljeinfkkeofaaGreatDoorW3
/- Calls whose outcome is known: they are so. -/
set_option maxRecDepth 1000000
namespace Go.Proofs.YtnljeinfkkeofaaGreatDoor
open Go Go.Ai AVal
theorem we26n1248 : EntOk (statOf Tryz.prog tab) 26 e26n1248 := memoEnt_ok (rc (memoL []) (memoL_ok (fun x hx => by cases hx)) 1000000) ke26n1248
theorem we21n1256 : EntOk (statOf Tryz.prog tab) 21 e21n1256 := memoEnt_ok (rc (memoL []) (memoL_ok (fun x hx => by cases hx)) 1000000) ke21n1256
theorem we26n2134 : EntOk (statOf Tryz.prog tab) 26 e26n2134 := memoEnt_ok (rc (memoL []) (memoL_ok (fun x hx => by cases hx)) 1000000) ke26n2134
theorem we21n2148 : EntOk (statOf Tryz.prog tab) 21 e21n2148 := memoEnt_ok (rc (memoL []) (memoL_ok (fun x hx => by cases hx)) 1000000) ke21n2148
theorem we26n3285 : EntOk (statOf Tryz.prog tab) 26 e26n3285 := memoEnt_ok (rc (memoL []) (memoL_ok (fun x hx => by cases hx)) 1000000) ke26n3285
theorem we21n3292 : EntOk (statOf Tryz.prog tab) 21 e21n3292 := memoEnt_ok (rc (memoL []) (memoL_ok (fun x hx => by cases hx)) 1000000) ke21n3292
theorem we21n4012 : EntOk (statOf Tryz.prog tab) 21 e21n4012 := memoEnt_ok (rc (memoL []) (memoL_ok (fun x hx => by cases hx)) 1000000) ke21n4012
theorem we26n4890 : EntOk (statOf Tryz.prog tab) 26 e26n4890 := memoEnt_ok (rc (memoL []) (memoL_ok (fun x hx => by cases hx)) 1000000) ke26n4890
theorem we26n5110 : EntOk (statOf Tryz.prog tab) 26 e26n5110 := memoEnt_ok (rc (memoL []) (memoL_ok (fun x hx => by cases hx)) 1000000) ke26n5110
theorem we21n5954 : EntOk (statOf Tryz.prog tab) 21 e21n5954 := memoEnt_ok (rc (memoL []) (memoL_ok (fun x hx => by cases hx)) 1000000) ke21n5954
theorem we62n5502 : EntOk (statOf Tryz.prog tab) 62 e62n5502 := memoEnt_ok (rc (memoL [(21, e21n5954)]) (memoL_ok (by
  intro x hx
  rcases List.mem_cons.1 hx with rfl | hx
  · exact we21n5954
  cases hx)) 1000000) ke62n5502
theorem we21n7124 : EntOk (statOf Tryz.prog tab) 21 e21n7124 := memoEnt_ok (rc (memoL []) (memoL_ok (fun x hx => by cases hx)) 1000000) ke21n7124
theorem we62n6672 : EntOk (statOf Tryz.prog tab) 62 e62n6672 := memoEnt_ok (rc (memoL [(21, e21n7124)]) (memoL_ok (by
  intro x hx
  rcases List.mem_cons.1 hx with rfl | hx
  · exact we21n7124
  cases hx)) 1000000) ke62n6672
theorem we26n7871 : EntOk (statOf Tryz.prog tab) 26 e26n7871 := memoEnt_ok (rc (memoL []) (memoL_ok (fun x hx => by cases hx)) 1000000) ke26n7871
theorem we5n5131 : EntOk (statOf Tryz.prog tab) 5 e5n5131 := memoEnt_ok (rc (memoL [(62, e62n5502), (62, e62n6672), (26, e26n7871)]) (memoL_ok (by
  intro x hx
  rcases List.mem_cons.1 hx with rfl | hx
  · exact we62n5502
  rcases List.mem_cons.1 hx with rfl | hx
  · exact we62n6672
  rcases List.mem_cons.1 hx with rfl | hx
  · exact we26n7871
  cases hx)) 1000000) ke5n5131
theorem we18n3037 : EntOk (statOf Tryz.prog tab) 18 e18n3037 := memoEnt_ok (rc (memoL [(26, e26n3285), (21, e21n3292), (21, e21n4012), (26, e26n4890), (26, e26n5110), (5, e5n5131)]) (memoL_ok (by
  intro x hx
  rcases List.mem_cons.1 hx with rfl | hx
  · exact we26n3285
  rcases List.mem_cons.1 hx with rfl | hx
  · exact we21n3292
  rcases List.mem_cons.1 hx with rfl | hx
  · exact we21n4012
  rcases List.mem_cons.1 hx with rfl | hx
  · exact we26n4890
  rcases List.mem_cons.1 hx with rfl | hx
  · exact we26n5110
  rcases List.mem_cons.1 hx with rfl | hx
  · exact we5n5131
  cases hx)) 1000000) ke18n3037
theorem we5n7916 : EntOk (statOf Tryz.prog tab) 5 e5n7916 := memoEnt_ok (rc (memoL []) (memoL_ok (fun x hx => by cases hx)) 1000000) ke5n7916
theorem we21n9052 : EntOk (statOf Tryz.prog tab) 21 e21n9052 := memoEnt_ok (rc (memoL []) (memoL_ok (fun x hx => by cases hx)) 1000000) ke21n9052
theorem we62n8600 : EntOk (statOf Tryz.prog tab) 62 e62n8600 := memoEnt_ok (rc (memoL [(21, e21n9052)]) (memoL_ok (by
  intro x hx
  rcases List.mem_cons.1 hx with rfl | hx
  · exact we21n9052
  cases hx)) 1000000) ke62n8600
theorem we26n9784 : EntOk (statOf Tryz.prog tab) 26 e26n9784 := memoEnt_ok (rc (memoL []) (memoL_ok (fun x hx => by cases hx)) 1000000) ke26n9784
theorem we5n8258 : EntOk (statOf Tryz.prog tab) 5 e5n8258 := memoEnt_ok (rc (memoL [(62, e62n8600), (26, e26n9784)]) (memoL_ok (by
  intro x hx
  rcases List.mem_cons.1 hx with rfl | hx
  · exact we62n8600
  rcases List.mem_cons.1 hx with rfl | hx
  · exact we26n9784
  cases hx)) 1000000) ke5n8258
theorem we26n10556 : EntOk (statOf Tryz.prog tab) 26 e26n10556 := memoEnt_ok (rc (memoL []) (memoL_ok (fun x hx => by cases hx)) 1000000) ke26n10556
noncomputable def top : List (Nat × Ent) := [(26, e26n1248), (21, e21n1256), (26, e26n2134), (21, e21n2148), (18, e18n3037), (5, e5n7916), (5, e5n8258), (26, e26n10556)]
theorem top_ok : ∀ x ∈ top, EntOk (statOf Tryz.prog tab) x.1 x.2 := by
  intro x hx
  unfold top at hx
  rcases List.mem_cons.1 hx with rfl | hx
  · exact we26n1248
  rcases List.mem_cons.1 hx with rfl | hx
  · exact we21n1256
  rcases List.mem_cons.1 hx with rfl | hx
  · exact we26n2134
  rcases List.mem_cons.1 hx with rfl | hx
  · exact we21n2148
  rcases List.mem_cons.1 hx with rfl | hx
  · exact we18n3037
  rcases List.mem_cons.1 hx with rfl | hx
  · exact we5n7916
  rcases List.mem_cons.1 hx with rfl | hx
  · exact we5n8258
  rcases List.mem_cons.1 hx with rfl | hx
  · exact we26n10556
  cases hx
end Go.Proofs.YtnljeinfkkeofaaGreatDoor
