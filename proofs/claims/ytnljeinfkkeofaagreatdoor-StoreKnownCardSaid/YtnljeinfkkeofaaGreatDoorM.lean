/-
  The chapter's examples hold: lectern/lecternlaw27.StoreKnown answers true. Conditions: those of the given row alone (the listed package-level variables hold what the program's text lays; the card ties that).
-/
import Derived.Test.YtnljeinfkkeofaaGreatDoorX
import Derived.Test.YtnljeinfkkeofaaGreatDoorK0
import Derived.Test.YtnljeinfkkeofaaGreatDoorK1
import Derived.Test.YtnljeinfkkeofaaGreatDoorK2
import Derived.Test.YtnljeinfkkeofaaGreatDoorK3
import Derived.Deep.DeepHandedRow
import Derived.LaidMore
import Derived.Lay
set_option maxRecDepth 1000000
set_option maxHeartbeats 100000000
set_option linter.unusedSimpArgs false
set_option linter.unusedVariables false
namespace Go.Proofs.YtnljeinfkkeofaaGreatDoor
open Go Go.Ai Go.ChangeShapes Go.WideShapes Go.ChangeAt Go.RowKit

def tb : TabG := ⟨ "math/bits.deBruijn64tab", 4, 498, .u8, [0, 1, 56, 2, 57, 49, 28, 3, 61, 58, 42, 50, 38, 29, 17, 4, 62, 47, 59, 36, 45, 43, 51, 22, 53, 39, 33, 30, 24, 18, 12, 5, 63, 55, 48, 27, 60, 41, 37, 16, 46, 35, 44, 21, 52, 32, 23, 11, 54, 26, 40, 15, 34, 20, 31, 10, 25, 14, 19, 9, 13, 8, 7, 6]⟩
theorem under_t : Tryz.prog.underlying 498 = some (.array 64 5) := by kernel_rfl
theorem under_e : Tryz.prog.underlying 5 = some (.int .u8) := by kernel_rfl
theorem runs : isTrueO (frameA (evalA (prg (memoL top)) 1000000) 1000000 a3 0 pd16 [(.t 0)] [] none (h0Of [tb] 1000)) = true := by kernel_rfl
theorem fn_ok : FnOk (statOf Tryz.prog tab) 3 a3 0 pd16 [(.t 0)] := t3.ok tab_ok (List.mem_of_find?_eq_some (show (tab.find? fun x => Nat.beq x.f 3) = some d3 by kernel_rfl))
theorem contract (W : World) (hL : laidMet Tryz.prog Rows.storeKnownRow.laid W) (hsh : W.ShapedOpen Tryz.prog) : Calls Tryz.prog 3 #[] W fun e W' => e = .returned (.bool true) ∧ W.keptBut W' (fun _ => False) := by
  refine run_ok (nx := 1000) (G := [tb]) (rc (memoL top) (memoL_ok top_ok) 1000000) fn_ok hsh ?_ (Nat.le_of_ble_eq_true (by kernel_rfl)) (of_decide_eq_true (by kernel_rfl)) runs
  intro x hx
  obtain rfl := List.mem_singleton.1 hx
  obtain ⟨ps, hl, _⟩ := hL
  refine ⟨of_decide_eq_true (by kernel_rfl), by kernel_rfl, by kernel_rfl, ?_⟩
  exact laidVars_tab (g := 4) (t := 498) (e := 5) (n := 64) (by kernel_rfl) (by kernel_rfl) under_t under_e (by kernel_rfl) (by kernel_rfl) hl (List.mem_cons_of_mem _ (List.mem_cons_self ..))

theorem own : ownKnob Tryz.prog.godebug = none := by kernel_rfl
theorem lifted (os : Os) (started : os.Started) (H : Type) (enc : TypeId × Value → H) (F : Stop.Interp) :
    ReturnsInHanded {} Tryz.checked os 3 .any ((OpenSpec.ofChange Rows.storeKnownSpec).preRow enc Tryz.prog Tryz.f3 Rows.storeKnownRow.domain false Rows.storeKnownRow.laid) (((OpenSpec.ofChange Rows.storeKnownSpec).at F).post enc Tryz.prog Tryz.f3 false true false false) := by
  have hlaid : laidMetH Tryz.prog Rows.storeKnownRow.laid ((World.laidAll Tryz.prog os Rows.storeKnownRow.laid).forCall (fun _ _ => 0) ⟨#[], #[], []⟩).memory := by
    rw [MakeChecks.laidMetH_plain _ _ _ (by as_aux_lemma => kernel_rfl)]
    exact laidMet_laidAll _ (by as_aux_lemma => kernel_rfl) (by as_aux_lemma => kernel_rfl)
  obtain ⟨x, hx⟩ : ∃ x, DataW.whole enc Tryz.prog ((World.laidAll Tryz.prog os Rows.storeKnownRow.laid).forCall (fun _ _ => 0) ⟨#[], #[], []⟩).memory Tryz.f3.params.toList Rows.storeKnownSpec.vars false #[].toList 8 = some ([], [], x) := ⟨[], by as_aux_lemma => kernel_rfl⟩
  refine returnsInHanded_of_row (C := Tryz.checked) (s := OpenSpec.ofChange Rows.storeKnownSpec) own started (by as_aux_lemma => kernel_rfl) Tryz.func3
    ⟨World.laidAll Tryz.prog os Rows.storeKnownRow.laid, fun _ _ => 0, ⟨#[], #[], []⟩, World.laidAll_os _ _ _, World.shaped_of_ZipB (by as_aux_lemma => kernel_rfl) (by as_aux_lemma => kernel_rfl), rfl, (Input.okWide_of_okWideB (base := 0) (by as_aux_lemma => kernel_rfl)).2,
      OpenSpec.preRow_of_cond 8 hx (by as_aux_lemma => kernel_rfl) (fun k hk => by cases hk) (by as_aux_lemma => kernel_rfl) hlaid, (by simp only [Assume.holds]; exact ⟨by simp, by simp, (fun h => by cases h), by simp, by simp, by simp⟩)⟩ ?_
  intro W base args ds gs before hval hW _ _ _ hL hsh _
  have hW0 := hW
  obtain ⟨p, q, hA, _⟩ := hW
  have hA : DataW.TrodAll enc Tryz.prog W 0 (fun _ => true) true [] args.toList ds p := hA
  obtain ⟨ha, _, _⟩ := trodAll_nil hA
  obtain rfl : args = #[] := by cases args; simp_all
  rw [MakeChecks.laidMetH_plain _ _ _ (by as_aux_lemma => kernel_rfl)] at hL
  refine (contract W hL hsh).mono fun e W' ⟨he, hk⟩ => ?_
  subst he
  exact ⟨_, rfl, post_true (tb := 4) rfl rfl (by as_aux_lemma => kernel_rfl) rfl rfl hW0 hk⟩

theorem and_eq {a b : Bool} (ha : a = true) (hb : b = true) : (a && b) = true := by rw [ha, hb]; rfl
theorem closed : joinedFacts Tryz.pinned.checked.prog 3 Tryz.f3 (OpenSpec.ofChange Rows.storeKnownSpec).bare Rows.storeKnownRow = true := by
  unfold joinedFacts
  exact (and_eq (and_eq (and_eq (and_eq (and_eq (and_eq (and_eq (and_eq (and_eq (and_eq (and_eq (and_eq (and_eq (and_eq (and_eq (and_eq (and_eq (and_eq (and_eq (and_eq (and_eq (and_eq (and_eq (and_eq (and_eq (and_eq (and_eq (and_eq (and_eq (and_eq (and_eq (by as_aux_lemma => kernel_rfl) k2) k3) (by as_aux_lemma => kernel_rfl)) (by as_aux_lemma => kernel_rfl)) (by as_aux_lemma => kernel_rfl)) (by as_aux_lemma => kernel_rfl)) (by as_aux_lemma => kernel_rfl)) (by as_aux_lemma => kernel_rfl)) k10) k11) k12) k13) (by as_aux_lemma => kernel_rfl)) (by as_aux_lemma => kernel_rfl)) (by as_aux_lemma => kernel_rfl)) (by as_aux_lemma => kernel_rfl)) (by as_aux_lemma => kernel_rfl)) (by as_aux_lemma => kernel_rfl)) (by as_aux_lemma => kernel_rfl)) (by as_aux_lemma => kernel_rfl)) (by as_aux_lemma => kernel_rfl)) (by as_aux_lemma => kernel_rfl)) (by as_aux_lemma => kernel_rfl)) (by as_aux_lemma => kernel_rfl)) (by as_aux_lemma => kernel_rfl)) (by as_aux_lemma => kernel_rfl)) (by as_aux_lemma => kernel_rfl)) (by as_aux_lemma => kernel_rfl)) (by as_aux_lemma => kernel_rfl)) (by as_aux_lemma => kernel_rfl)) (by as_aux_lemma => kernel_rfl))
theorem said : Rows.StoreKnownSaid :=
  OpenClaim.holds_of_cond 3 Tryz.f3 rfl rfl rfl rfl rfl rfl rfl ⟨rfl, rfl, rfl, rfl, rfl⟩ rfl rfl rfl rfl rfl (by as_aux_lemma => kernel_rfl) Tryz.func3 closed
    (of_decide_eq_true (by as_aux_lemma => kernel_rfl)) (by unfold Func.isWrapper; first | (rw [if_pos (by decide +kernel)]; kernel_rfl) | (rw [if_neg (by decide +kernel)]; exact ⟨rfl, rfl⟩))
    (fun os started H enc _ F => by rw [OpenClaim.pre_eq_preRow]; exact lifted os started H enc F)
theorem plain (f : FuncId) (fn : Func) (hf : Tryz.pinned.checked.prog.funcNamed "lectern/lecternlaw27.StoreKnown" = some f) (hfn : Tryz.pinned.checked.prog.funcs[f]? = some fn) :
    true = Tryz.pinned.checked.prog.looks [] ∧ ∀ (j : Nat) t, fn.params[j]? = some t → Tryz.pinned.checked.prog.wantsStandIn t = false := by
  obtain rfl : f = 3 := Option.some.inj ((show Tryz.prog.funcNamed "lectern/lecternlaw27.StoreKnown" = some 3 by as_aux_lemma => kernel_rfl).symm.trans hf) |>.symm
  obtain rfl : fn = Tryz.f3 := (Option.some.inj (Tryz.func3.symm.trans hfn)).symm
  refine ⟨by as_aux_lemma => kernel_rfl, fun j t ht => ?_⟩
  have h0 : Tryz.f3.params = #[] := by kernel_rfl
  rw [h0] at ht
  simp at ht
theorem storeKnown_holds : Rows.StoreKnownCardSaid :=
  Claim7.holds_tied_plain_at .later [] _ _ _ _ said (fun _ h => by cases h) (by as_aux_lemma => kernel_rfl) (fun _ h => by cases h) storeKnown_row_tie rfl ⟨rfl, rfl⟩ (by as_aux_lemma => kernel_rfl) rfl plain (goes_none rfl (by as_aux_lemma => kernel_rfl))
end Go.Proofs.YtnljeinfkkeofaaGreatDoor
