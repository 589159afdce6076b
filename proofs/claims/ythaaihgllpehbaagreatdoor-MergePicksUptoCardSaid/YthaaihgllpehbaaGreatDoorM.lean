/-
  Which segments are to be merged is what the document says, whatever their sizes: lectern/lecternlaw17.MergePicks answers true. Conditions: what is read is of bulk at most 1048576 (the given second form); the listed package-level variables hold what the program's text lays (the card ties that).
-/
import Derived.Test.YthaaihgllpehbaaGreatDoorX
import Derived.Test.YthaaihgllpehbaaGreatDoorU
import Derived.Test.YthaaihgllpehbaaGreatDoorK0
import Derived.Test.YthaaihgllpehbaaGreatDoorK1
import Derived.Test.YthaaihgllpehbaaGreatDoorK2
import Derived.Test.YthaaihgllpehbaaGreatDoorK3
import Derived.Deep.DeepHandedRow
import Derived.LaidMore
import Derived.Lay
set_option maxRecDepth 1000000
set_option maxHeartbeats 100000000
set_option linter.unusedSimpArgs false
set_option linter.unusedVariables false
namespace Go.Proofs.YthaaihgllpehbaaGreatDoor
open Go Go.Ai Go.ChangeShapes Go.WideShapes Go.ChangeAt Go.RowKit

def tb : TabG := ⟨ "math/bits.deBruijn64tab", 0, 414, .u8, [0, 1, 56, 2, 57, 49, 28, 3, 61, 58, 42, 50, 38, 29, 17, 4, 62, 47, 59, 36, 45, 43, 51, 22, 53, 39, 33, 30, 24, 18, 12, 5, 63, 55, 48, 27, 60, 41, 37, 16, 46, 35, 44, 21, 52, 32, 23, 11, 54, 26, 40, 15, 34, 20, 31, 10, 25, 14, 19, 9, 13, 8, 7, 6]⟩
theorem under_t : Tryz.prog.underlying 414 = some (.array 64 5) := by kernel_rfl
theorem under_e : Tryz.prog.underlying 5 = some (.int .u8) := by kernel_rfl
theorem runs : isTrueO (frameA (evalA (prg (memoL top)) 1000000) 1000000 a8 0 pd6 [(.t 0)] [] none (h0Of [tb] 1000)) = true := by kernel_rfl
theorem fn_ok8 : FnOk (statOf Tryz.prog tab) 8 a8 0 pd6 [(.t 0)] := t8.ok tab_ok (List.mem_of_find?_eq_some (show (tab.find? fun x => Nat.beq x.f 8) = some d8 by kernel_rfl))
theorem fn_ok3 : FnOk (statOf Tryz.prog tab) 3 a3 2 pd6 [.t 2] := t3.ok tab_ok (List.mem_of_find?_eq_some (show (tab.find? fun x => Nat.beq x.f 3) = some d3 by kernel_rfl))
theorem q8 : CallQ (statOf Tryz.prog tab) 8 (qTrue [tb]) := by
  refine qTrue_ok (nx := 1000) (rc (memoL top) (memoL_ok top_ok) 1000000) fn_ok8 (Nat.le_of_ble_eq_true (by kernel_rfl)) ?_ runs
  intro x hx
  obtain rfl := List.mem_singleton.1 hx
  exact of_decide_eq_true (by kernel_rfl)
/-- The program in which awake is told. -/
noncomputable def x8q : XFn := .gen (qTrue [tb]) a8 0 pd6 [(.t 0)]
noncomputable def ap : AProg := ⟨(fns (memoL [])).set 8 (some x8q), rfs⟩
theorem rcq (n : Nat) : RcOk (statOf Tryz.prog tab) (evalA ap n) := by
  refine rc_ok tab_ok (EL := (8, x8q) :: fnl (memoL [])) ?_ rfl_ok ?_ rfs_eq n
  · intro e he
    rcases List.mem_cons.1 he with rfl | he
    · exact xg t8 (by kernel_rfl) q8
    · exact fnl_ok _ (memoL_ok (fun x hx => by cases hx)) e he
  · show (fns (memoL [])).set 8 (some x8q) = (buildT (fnl (memoL []))).set 8 (some x8q)
    rw [fns_eq]
theorem contract (H : Type) (enc : TypeId × Value → H) (W : World) (base : Nat) (args : Array Value) (ds gs : List (DataW H)) (before : List MemPlace)
    (hval : ∀ (j : Nat) t v, Tryz.f3.params[j]? = some t → args[j]? = some v → Value.okWide Tryz.prog W .any base t v)
    (hW : DataW.Whole enc Tryz.prog Tryz.f3.params.toList Rows.mergePicksSpec.vars false W args.toList ds gs before) (hc : Rows.uptoSmall H (ds ++ gs) = true) (hL : laidMet Tryz.prog Rows.mergePicksUptoRow.laid W) (hsh : W.ShapedOpen Tryz.prog) :
    Calls Tryz.prog 3 args W fun e W' => ∃ v, e = .returned v ∧ Rows.mergePicksSpec.post enc Tryz.prog Tryz.f3 false true false false W args v W' := by
  have hW0 := hW
  obtain ⟨p, q, hA0, hV, rfl, hfz, hnd⟩ := hW
  have hA : DataW.TrodAll enc Tryz.prog W 0 (fun _ => true) true Tryz.f3.params.toList args.toList ds p := hA0
  obtain ⟨rfl, rfl⟩ := trodVars_none hV
  rw [Tryz.params3] at hA hval
  obtain ⟨v0, v1, d0, d1, p0, p1, rfl, rfl, rfl, h0, h1⟩ := trodAll_two hA
  have hval0 := hval 0 _ v0 rfl rfl
  have hval1 := hval 1 _ v1 rfl rfl
  obtain ⟨m, rfl, rfl, rfl, hm⟩ := open_int (k := .i64) (by kernel_rfl) hval1 h1
  obtain ⟨r, gl⟩ := init_ok (T := tab) (nx := 1000) (G := [tb]) hsh (by
    intro x hx
    obtain rfl := List.mem_singleton.1 hx
    obtain ⟨ps, hl, _⟩ := hL
    refine ⟨of_decide_eq_true (by kernel_rfl), by kernel_rfl, by kernel_rfl, ?_⟩
    exact laidVars_tab (g := 0) (t := 414) (e := 5) (n := 64) (by kernel_rfl) (by kernel_rfl) under_t under_e (by kernel_rfl) (by kernel_rfl) hl (List.mem_cons_of_mem _ (List.mem_cons_self ..))) (Nat.le_of_ble_eq_true (by kernel_rfl)) (of_decide_eq_true (by kernel_rfl))
  obtain ⟨ρ', h', v, zs, r1, ro1, le1, hv, hS, hd, ho, hb⟩ := arg_ints (S := statOf Tryz.prog tab) (enc := enc) (e := 3) (by kernel_rfl) (by kernel_rfl) (by kernel_rfl) r (h0_ro _ _) hval0 h0
  have hn : zs.length < 16777216 := by
    have hc' : Rows.uptoBulkAll ([d0, .lit (.int .i64 m)] ++ []) ≤ 1048576 := of_decide_eq_true hc
    rcases hd with ⟨_, rfl⟩ | ⟨sp, rfl⟩
    · simp
    · have hb : Rows.uptoBulkAll (lits .i64 zs : List (DataW H)) = zs.length := bulk_lits (f := Rows.uptoBulk) (by simp [Rows.uptoBulkAll]) (fun d r => by simp [Rows.uptoBulkAll]) (fun k n => by simp [Rows.uptoBulk]) .i64 zs
      simp only [List.append_nil, Rows.uptoBulkAll, Rows.uptoBulk, hb] at hc'
      omega
  have htab : (h0Of [tb] 1000).get 0 = some (tabObj tb) := by kernel_rfl
  have g8 : ap.fn.get 8 = some x8q := by kernel_rfl
  have haw : ∀ h2, Old h' h2 → ∃ h3, RunF ap 8 [] h2 (.bool true) h3 := by
    intro h2 ho2
    refine ⟨h2, 1, fun n hn => ?_⟩
    obtain ⟨k, rfl⟩ : ∃ k, n = k + 1 := ⟨n - 1, by omega⟩
    have e1 : h2.get 0 = some (tabObj tb) := by
      have := (ho.trans ho2).1 0 (Nat.lt_of_lt_of_le (by decide : 0 < 1000) (Nat.le_refl _))
      rw [this]; exact htab
    have e2 : hasTab h2 tb = true := by
      unfold hasTab
      rw [show h2.get tb.g = some (tabObj tb) from e1]
      show sameObj (tabObj tb) (tabObj tb) = true
      kernel_rfl
    have e3 : qTrue [tb] [] h2 = .ok (.bool true) h2 := by
      simp [qTrue, e2]
    simp only [evalA, g8, x8q, e3]
  obtain ⟨h3, n0, hrun⟩ := law (AP := ap) (by kernel_rfl) (by kernel_rfl) (by kernel_rfl) (by kernel_rfl) (by kernel_rfl) (by kernel_rfl) (m := m) hS hn hb haw
  have g3 : ap.fn.get 3 = some (.go a3 2 pd6 [.t 2]) := by kernel_rfl
  have hrun' := hrun (n0 + 1) (by omega)
  simp only [evalA, g3] at hrun'
  have := runA_ok (rcq n0) fn_ok3 r1 (gl.mono le1) ro1 (args' := [v0, .int .i64 m]) (.cons _ _ _ _ hv (.cons _ _ _ _ (.int _ _) .nil)) hrun'
  refine Calls.mono (show Calls Tryz.prog 3 #[v0, .int .i64 m] W _ from this) fun e W' ⟨he, o1, o2, o3, o4⟩ => ?_
  subst he
  refine ⟨_, rfl, post_trueA (tb := 4) k2 ?_ (by kernel_rfl) (by kernel_rfl) rfl rfl hW0 o1 o2 o3 o4⟩
  intro t ht
  rw [Tryz.params3] at ht
  have : ([22, 3] : List Nat).all (fun t => Tryz.prog.readableRec t && decide (t < Tryz.prog.types.size)) = true := by kernel_rfl
  have := List.all_eq_true.1 this t (by simpa using ht)
  simpa using this

theorem own : ownKnob Tryz.prog.godebug = none := by kernel_rfl
theorem lifted (os : Os) (started : os.Started) (H : Type) (enc : TypeId × Value → H) (F : Stop.Interp) :
    ReturnsInHanded {} Tryz.checked os 3 .any ((Rows.OpenSpec.upto Rows.mergePicksSpec).preRow enc Tryz.prog Tryz.f3 Rows.mergePicksUptoRow.domain false Rows.mergePicksUptoRow.laid) (((Rows.OpenSpec.upto Rows.mergePicksSpec).at F).post enc Tryz.prog Tryz.f3 false true false false) := by
  have hlaid : laidMetH Tryz.prog Rows.mergePicksUptoRow.laid ((World.laidAll Tryz.prog os Rows.mergePicksUptoRow.laid).forCall (fun _ _ => 0) ⟨#[], #[.slice none 0 0, .int .i64 0], []⟩).memory := by
    rw [MakeChecks.laidMetH_plain _ _ _ (by as_aux_lemma => kernel_rfl)]
    exact laidMet_laidAll _ (by as_aux_lemma => kernel_rfl) (by as_aux_lemma => kernel_rfl)
  obtain ⟨x, hx⟩ : ∃ x, DataW.whole enc Tryz.prog ((World.laidAll Tryz.prog os Rows.mergePicksUptoRow.laid).forCall (fun _ _ => 0) ⟨#[], #[.slice none 0 0, .int .i64 0], []⟩).memory Tryz.f3.params.toList Rows.mergePicksSpec.vars false #[Value.slice none 0 0, .int .i64 0].toList 8 = some ([.nil, .lit (.int .i64 0)], [], x) := ⟨[], by as_aux_lemma => kernel_rfl⟩
  refine returnsInHanded_of_row (C := Tryz.checked) (s := Rows.OpenSpec.upto Rows.mergePicksSpec) own started (by as_aux_lemma => kernel_rfl) Tryz.func3
    ⟨World.laidAll Tryz.prog os Rows.mergePicksUptoRow.laid, fun _ _ => 0, ⟨#[], #[.slice none 0 0, .int .i64 0], []⟩, World.laidAll_os _ _ _, World.shaped_of_ZipB (by as_aux_lemma => kernel_rfl) (by as_aux_lemma => kernel_rfl), rfl, (Input.okWide_of_okWideB (base := 0) (by as_aux_lemma => kernel_rfl)).2,
      OpenSpec.preRow_of_cond 8 hx (by as_aux_lemma => kernel_rfl) (fun k hk => by cases hk; as_aux_lemma => kernel_rfl) (by as_aux_lemma => kernel_rfl) hlaid, (by simp only [Assume.holds]; exact ⟨by simp, by simp, (fun h => by cases h), by simp, by simp, by simp⟩)⟩ ?_
  intro W base args ds gs before hval hW _ hcond _ hL hsh _
  rw [MakeChecks.laidMetH_plain _ _ _ (by as_aux_lemma => kernel_rfl)] at hL
  exact contract H enc W base args ds gs before hval hW (hcond _ rfl) hL hsh

theorem and_eq {a b : Bool} (ha : a = true) (hb : b = true) : (a && b) = true := by rw [ha, hb]; rfl
theorem closed : joinedFacts Tryz.pinned.checked.prog 3 Tryz.f3 (Rows.OpenSpec.upto Rows.mergePicksSpec).bare Rows.mergePicksUptoRow = true := by
  unfold joinedFacts
  exact (and_eq (and_eq (and_eq (and_eq (and_eq (and_eq (and_eq (and_eq (and_eq (and_eq (and_eq (and_eq (and_eq (and_eq (and_eq (and_eq (and_eq (and_eq (and_eq (and_eq (and_eq (and_eq (and_eq (and_eq (and_eq (and_eq (and_eq (and_eq (and_eq (and_eq (and_eq (by as_aux_lemma => kernel_rfl) k2) k3) (by as_aux_lemma => kernel_rfl)) (by as_aux_lemma => kernel_rfl)) (by as_aux_lemma => kernel_rfl)) (by as_aux_lemma => kernel_rfl)) (by as_aux_lemma => kernel_rfl)) (by as_aux_lemma => kernel_rfl)) k10) k11) k12) k13) (by as_aux_lemma => kernel_rfl)) (by as_aux_lemma => kernel_rfl)) (by as_aux_lemma => kernel_rfl)) (by as_aux_lemma => kernel_rfl)) (by as_aux_lemma => kernel_rfl)) (by as_aux_lemma => kernel_rfl)) (by as_aux_lemma => kernel_rfl)) (by as_aux_lemma => kernel_rfl)) (by as_aux_lemma => kernel_rfl)) (by as_aux_lemma => kernel_rfl)) (by as_aux_lemma => kernel_rfl)) (by as_aux_lemma => kernel_rfl)) (by as_aux_lemma => kernel_rfl)) (by as_aux_lemma => kernel_rfl)) (by as_aux_lemma => kernel_rfl)) (by as_aux_lemma => kernel_rfl)) (by as_aux_lemma => kernel_rfl)) (by as_aux_lemma => kernel_rfl)) (by as_aux_lemma => kernel_rfl))
theorem said : Rows.MergePicksUptoSaid :=
  OpenClaim.holds_of_cond 3 Tryz.f3 rfl rfl rfl rfl rfl rfl rfl ⟨rfl, rfl, rfl, rfl, rfl⟩ rfl rfl rfl rfl rfl (by as_aux_lemma => kernel_rfl) Tryz.func3 closed
    (of_decide_eq_true (by as_aux_lemma => kernel_rfl)) (by unfold Func.isWrapper; first | (rw [if_pos (by decide +kernel)]; kernel_rfl) | (rw [if_neg (by decide +kernel)]; exact ⟨rfl, rfl⟩))
    (fun os started H enc _ F => by rw [OpenClaim.pre_eq_preRow]; exact lifted os started H enc F)
theorem plain (f : FuncId) (fn : Func) (hf : Tryz.pinned.checked.prog.funcNamed "lectern/lecternlaw17.MergePicks" = some f) (hfn : Tryz.pinned.checked.prog.funcs[f]? = some fn) :
    true = Tryz.pinned.checked.prog.looks [] ∧ ∀ (j : Nat) t, fn.params[j]? = some t → Tryz.pinned.checked.prog.wantsStandIn t = false := by
  obtain rfl : f = 3 := Option.some.inj ((show Tryz.prog.funcNamed "lectern/lecternlaw17.MergePicks" = some 3 by as_aux_lemma => kernel_rfl).symm.trans hf) |>.symm
  obtain rfl : fn = Tryz.f3 := (Option.some.inj (Tryz.func3.symm.trans hfn)).symm
  refine ⟨by as_aux_lemma => kernel_rfl, fun j t ht => ?_⟩
  rw [Tryz.params3] at ht
  have : ([22, 3] : List Nat).all (fun t => !Tryz.prog.wantsStandIn t) = true := by as_aux_lemma => kernel_rfl
  have := List.all_eq_true.1 this t (by simpa using Array.mem_of_getElem? ht)
  have h9 : Tryz.prog.wantsStandIn t = false := by simpa using this
  exact h9
theorem mergePicksUpto_holds : Rows.MergePicksUptoCardSaid :=
  Claim7.holds_tied_plain_at .later [] _ _ _ _ said (fun _ h => by cases h) (by as_aux_lemma => kernel_rfl) (fun _ h => by cases h) mergePicksUpto_row_tie rfl ⟨rfl, rfl⟩ (by as_aux_lemma => kernel_rfl) rfl plain (goes_none rfl (by as_aux_lemma => kernel_rfl))
end Go.Proofs.YthaaihgllpehbaaGreatDoor
