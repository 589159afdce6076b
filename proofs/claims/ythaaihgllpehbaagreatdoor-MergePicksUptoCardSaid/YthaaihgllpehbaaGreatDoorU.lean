import Derived.Test.YthaaihgllpehbaaGreatDoorG
/- The law at values that are not known, by the interpreter. -/
set_option maxRecDepth 100000
namespace Go.Proofs.YthaaihgllpehbaaGreatDoor.PickLaw
def clip (n : Int) : Int := min (max n 0) 16385
def clipR (n : Int) : Int := if n > 16384 then 16385 else if n > 0 then n else 0
theorem clip_eq (n : Int) : clip n = clipR n := by unfold clip clipR; split <;> (try split) <;> omega
def stepP (s : Int) (i : Int) (x : Int × Int) : Int × Int := if s < x.1 then (s, i) else x
def stepR (s : Int) (i : Int) (x : Int × Int) : Int × Int := if s ≤ 16384 ∧ (x.1 < 0 ∨ s < x.2) then (i, s) else x
def Inv (p r : Int × Int) : Prop := (p = (16385, -1) ∧ r = (-1, 0)) ∨ (p.2 = r.1 ∧ p.1 = r.2 ∧ 0 ≤ r.1 ∧ r.2 ≤ 16384)
theorem inv0 : Inv (16385, -1) (-1, 0) := .inl ⟨rfl, rfl⟩
theorem inv_step {p r : Int × Int} {s i : Int} (h : Inv p r) (hi : 0 ≤ i) : Inv (stepP s i p) (stepR s i r) := by
  obtain ⟨p1, p2⟩ := p
  obtain ⟨r1, r2⟩ := r
  unfold stepP stepR
  rcases h with ⟨h1, h2⟩ | ⟨h1, h2, h3, h4⟩
  · injection h1 with a b; injection h2 with c d
    subst a b c d
    by_cases hs : s < 16385
    · rw [if_pos hs, if_pos ⟨by omega, .inl (by decide)⟩]
      exact .inr ⟨rfl, rfl, hi, by show s ≤ 16384; omega⟩
    · rw [if_neg hs, if_neg (fun h => by omega)]
      exact inv0
  · simp only at h1 h2 h3 h4
    subst h1 h2
    by_cases hs : s < p1
    · rw [if_pos hs, if_pos ⟨by omega, .inr hs⟩]
      exact .inr ⟨rfl, rfl, hi, by show s ≤ 16384; omega⟩
    · rw [if_neg hs, if_neg (fun h => by omega)]
      exact .inr ⟨rfl, rfl, h3, h4⟩
theorem inv_end {p r : Int × Int} (h : Inv p r) : p.2 = r.1 := by
  rcases h with ⟨h1, h2⟩ | ⟨h1, _⟩
  · rw [h1, h2]
  · exact h1
end Go.Proofs.YthaaihgllpehbaaGreatDoor.PickLaw
set_option linter.unusedSimpArgs false
set_option linter.unusedVariables false
namespace Go.Proofs.YthaaihgllpehbaaGreatDoor
open Go Go.Ai AVal

attribute [local simp] kSeq kReg kRegC kCond kBlock kSkip kRet kExit kDraw stepsD chkM wantD stepD isF rdD finD checkD setD nth_eq oMov xT xL xK ki oIaddr oLoad oBin oExt oPick oLenL oSlc oApp oBsl oUn unA sliceA sliceG bounds natOr natOf rdO rdL orOf appendA fillA repl over_eq overAt_eq AVal.cells
  binA binI kEq arith thenO sV sH sS sG sEnd sCond setN cellAt cellsAt sliceCells part_eq get_put get_new get_kill ilt_eq ile_eq ieq_eq padT resA resV
attribute [-simp] Int.natCast_add
/-- A slice of these numbers. -/
def Sl (h : H) (v : AVal) (zs : List Int) : Prop := ((v = nils ∨ v = emp) ∧ zs = []) ∨ ∃ b o c, v = slice b o zs.length c ∧ cellsAt h b o zs.length = some (zs.map (int .i64))
/-- What was there is as it was. -/
def Old (h h' : H) : Prop := (∀ c, c < h.nx → h'.get c = h.get c) ∧ h.nx ≤ h'.nx
theorem Old.refl (h : H) : Old h h := ⟨fun _ _ => rfl, Nat.le_refl _⟩
theorem Old.trans {h h1 h2 : H} (a : Old h h1) (b : Old h1 h2) : Old h h2 := ⟨fun c hc => (b.1 c (Nat.lt_of_lt_of_le hc a.2)).trans (a.1 c hc), Nat.le_trans a.2 b.2⟩

theorem lent {AP : AProg} (hg : AP.fn.get 4 = some (.go a4 1 pd2 [.t 1])) {h : H} {v : AVal} {zs : List Int} (hv : Sl h v zs) (hn : zs.length < 16777216) :
    ∃ b h', RunF AP 4 [v] h (slice b 0 zs.length (.gr 1)) h' ∧ h'.get b = some (.cells ((zs ++ [-7171]).map (int .i64)) 3 1 .grow false) ∧ h.nx ≤ b ∧ Old h h' := by
  by_cases hz : zs = []
  · subst hz
    refine ⟨h.nx + 1, (h.new (.cells [int .i64 (-7171)] 3 1 .own false)).new (.cells [int .i64 (-7171)] 3 1 .grow false), RunF.ret (tm := [v, .tup [], .tup []]) (tm' := [v, slice (h.nx + 1) 0 0 (.gr 1), slice (h.nx + 1) 0 1 (.gr 1)]) (l := [slice (h.nx + 1) 0 0 (.gr 1)]) hg (by simp [pd2]) (RC.mk fun n m => ?_) (by simp), ?_, ?_, ?_, ?_⟩
    · rcases hv with ⟨rfl | rfl, _⟩ | ⟨b, o, c, rfl, hc⟩
      · simp [a4]
      · simp [a4]
      · simp at hc
        simp [a4, hc]
    · simp [nx_new]
    · simp
    · intro c hc
      simp [nx_new, show ¬ h.nx + 1 = c by omega, show ¬ h.nx = c by omega]
    · simp [nx_new]; omega
  · have hp : 0 < zs.length := List.length_pos_iff.2 hz
    rcases hv with ⟨_, h0⟩ | ⟨b, o, c, rfl, hc⟩
    · exact absurd h0 hz
    refine ⟨h.nx + 2, (((h.new (.cells (zs.map (int .i64)) 3 1 .grow false)).new (.cells [int .i64 (-7171)] 3 1 .own false)).kill h.nx).new (.cells (zs.map (int .i64) ++ [int .i64 (-7171)]) 3 1 .grow false),
      RunF.ret (tm := [slice b o zs.length c, .tup [], .tup []]) (tm' := [slice b o zs.length c, slice (h.nx + 2) 0 zs.length (.gr 1), slice (h.nx + 2) 0 (zs.length + 1) (.gr 1)]) (l := [slice (h.nx + 2) 0 zs.length (.gr 1)]) hg (by simp [pd2]) (RC.mk fun n m => ?_) (by simp), ?_, ?_, ?_, ?_⟩
    · simp at hc
      have e : List.take zs.length (zs.map (int .i64)) = zs.map (int .i64) := List.take_of_length_le (by simp)
      simp [a4, hc, show ¬ zs.length = 0 by omega, show zs.length ≤ 16777216 by omega, show zs.length + 1 ≤ 16777216 by omega, show ¬ zs.length + 1 ≤ zs.length by omega, nx_new, nx_kill, e]
    · simp [nx_new, nx_kill]
    · simp
    · intro c hc
      simp [nx_new, nx_kill, show ¬ h.nx + 1 + 1 = c by omega, show ¬ h.nx + 1 = c by omega, show ¬ h.nx = c by omega]
    · simp [nx_new, nx_kill]; omega

theorem cell_of {h : H} {b o n : Nat} {zs : List Int} (hc : cellsAt h b o n = some (zs.map (int .i64))) (i : Nat) (z : Int) (hz : zs[i]? = some z) : cellAt h b (o + i) = some (int .i64 z) := by
  unfold cellsAt at hc
  unfold cellAt
  split at hc
  · rename_i cs el es kd fz hg
    rw [part_eq] at hc
    rw [nth_eq]
    split at hc
    · have h1 := Option.some.inj hc
      have h2 : (List.map (int .i64) zs)[i]? = some (int .i64 z) := by rw [List.getElem?_map, hz]; rfl
      rw [← h1, List.getElem?_take] at h2
      split at h2
      · rwa [List.getElem?_drop] at h2
      · cases h2
    · cases hc
  · cases hc
theorem cast_i64 {n : Nat} (h : n < 9223372036854775808) : wrapA .i64 (n : Int) = n := wrap_i64 (by omega) (by omega)
theorem succ_i64 {n : Nat} (h : n < 9223372036854775807) : wrapA .i64 ((n : Int) + 1) = ((n + 1 : Nat) : Int) := by rw [wrap_i64 (by omega) (by omega)]; rfl

/-- Ints of two slices of the same numbers. -/
theorem ints_loop {AP : AProg} {h : H} {fx : Fx} {r : AVal} {ba oa bb ob : Nat} {ca cb : ACap} {zs : List Int} (ha : cellsAt h ba oa zs.length = some (zs.map (int .i64))) (hb : cellsAt h bb ob zs.length = some (zs.map (int .i64))) (hn : zs.length < 9223372036854775807) :
    ∀ (d i : Nat) (t : AVal), zs.length = i + d → ∃ t', RC AP (kLoop a9l0) [slice ba oa zs.length ca, slice bb ob zs.length cb, r, int .i64 i, t] fx h (.brk (.exit 0) [slice ba oa zs.length ca, slice bb ob zs.length cb, r, int .i64 zs.length, t'] fx h)
  | 0, i, t, e => ⟨t, RC.loopX (RC.mk fun n m => by simp [a9l0, e]) rfl⟩
  | d + 1, i, t, e => by
    obtain ⟨t', ih⟩ := ints_loop (AP := AP) (fx := fx) (r := r) (ca := ca) (cb := cb) ha hb hn d (i + 1) (bool false) (by omega)
    refine ⟨t', RC.loop (RC.mk fun n m => ?_) ih⟩
    obtain ⟨z, hz⟩ : ∃ z, zs[i]? = some z := ⟨zs[i]'(by omega), List.getElem?_eq_getElem _⟩
    have h1 := cell_of ha i z hz
    have h2 := cell_of hb i z hz
    simp only [cellAt, nth_eq] at h1 h2
    simp [a9l0, show i < zs.length by omega, h1, h2, succ_i64 (show i < 9223372036854775807 by omega)]
theorem ints_any {AP : AProg} {h : H} {fx : Fx} {r v w : AVal} {zs : List Int} (hv : Sl h v zs) (hw : Sl h w zs) (hn : zs.length < 9223372036854775807) (t : AVal) : ∃ t', RC AP (kLoop a9l0) [v, w, r, int .i64 0, t] fx h (.brk (.exit 0) [v, w, r, int .i64 zs.length, t'] fx h) := by
  by_cases hz : zs = []
  · subst hz
    refine ⟨t, RC.loopX (RC.mk fun n m => ?_) rfl⟩
    rcases hv with ⟨rfl | rfl, _⟩ | ⟨b, o, c, rfl, hc⟩ <;> simp [a9l0]
  · rcases hv with ⟨_, h0⟩ | ⟨b, o, c, rfl, hc⟩
    · exact absurd h0 hz
    rcases hw with ⟨_, h0⟩ | ⟨b', o', c', rfl, hc'⟩
    · exact absurd h0 hz
    exact ints_loop hc hc' hn zs.length 0 t (by omega)
theorem ints {AP : AProg} (hg : AP.fn.get 9 = some (.go a9 2 pd3 [.t 2])) {h : H} {v w : AVal} {zs : List Int} (hv : Sl h v zs) (hw : Sl h w zs) (hn : zs.length < 9223372036854775807) : RunF AP 9 [v, w] h (bool true) h := by
  obtain ⟨t', n0, hl⟩ := ints_any (AP := AP) (fx := ⟨[], none, none⟩) (r := bool false) hv hw hn (.tup [])
  refine RunF.ret (tm := [v, w, .tup [], .tup [], .tup []]) (tm' := [v, w, bool true, int .i64 zs.length, t']) (l := [bool true]) hg (by simp [pd3]) ⟨n0, fun n m h1 h2 => ?_⟩ (by simp)
  have h5 := hl n m h1 h2
  rcases hv with ⟨rfl | rfl, rfl⟩ | ⟨b, o, c, rfl, hc⟩ <;> rcases hw with ⟨rfl | rfl, h0⟩ | ⟨b', o', c', rfl, hc'⟩ <;> simp_all [a9]
/-- KeptInts. -/
theorem kept {AP : AProg} (hg : AP.fn.get 7 = some (.go a7 2 pd2 [.t 2])) (hg9 : AP.fn.get 9 = some (.go a9 2 pd3 [.t 2])) {h : H} {b : Nat} {w : AVal} {zs : List Int} (hb : h.get b = some (.cells ((zs ++ [-7171]).map (int .i64)) 3 1 .grow false)) (hw : Sl h w zs) (hn : zs.length < 9223372036854775807) :
    RunF AP 7 [slice b 0 zs.length (.gr 1), w] h (bool true) h := by
  have hS : Sl h (slice b 0 zs.length (.gr 1)) zs := .inr ⟨b, 0, _, rfl, by simp [hb]⟩
  obtain ⟨n0, h9⟩ := ints (AP := AP) hg9 hS hw hn
  refine RunF.ret (tm := [slice b 0 zs.length (.gr 1), w, .tup [], .tup []]) (tm' := [slice b 0 zs.length (.gr 1), w, bool true, slice b 0 (zs.length + 1) (.gr 1)]) (l := [bool true]) hg (by simp [pd2]) ⟨n0, fun n m h1 h2 => ?_⟩ (by simp)
  simp [a7, sC, cFn, h9 n h1, succ_i64 hn, hb, show ¬ zs.length + 1 ≤ zs.length by omega]

/-! ### Pick -/
open PickLaw
def wsum (l : List Int) : Int := (l.map clip).sum
theorem clip_nn (z : Int) : 0 ≤ clip z ∧ clip z ≤ 16385 := by unfold clip; omega
theorem wsum_nn : ∀ l : List Int, 0 ≤ wsum l ∧ wsum l ≤ 16385 * l.length
  | [] => by simp [wsum]
  | z :: l => by
    have h1 := clip_nn z
    have h2 := wsum_nn l
    simp only [wsum, List.map_cons, List.sum_cons, List.length_cons] at h2 ⊢
    omega
theorem int_i64 {x : Int} (h1 : 0 ≤ x) (h2 : x < 9223372036854775808) : wrapA .i64 x = x := wrap_i64 (by omega) h2
theorem pick_in {AP : AProg} {h : H} {fx : Fx} {b o m : Nat} {q : ACap} {ws : List Int} {v0 v1 v2 v3 v4 v11 v12 : AVal} (hw : cellsAt h b o m = some (ws.map (int .i64))) (hm : m ≤ 16) (hl : ws.length = m) :
    ∀ (d k : Nat) (s : Int) (t7 t9 : AVal), m = k + d → 0 ≤ s → s + 16385 * d < 9223372036854775808 → ∃ t7' t9', RC AP (kLoop a5l0) [v0, v1, v2, v3, v4, int .i64 m, int .i64 k, t7, slice b o m q, t9, int .i64 s, v11, v12] fx h
      (.brk (.exit 2) [v0, v1, v2, v3, v4, int .i64 m, int .i64 m, t7', slice b o m q, t9', int .i64 (s + wsum (ws.drop k)), v11, v12] fx h)
  | 0, k, s, t7, t9, e, _, _ => ⟨bool false, t9, RC.loopX (RC.mk fun n m => by simp [a5l0, e]; simp [List.drop_eq_nil_of_le (show ws.length ≤ k by omega), wsum]) rfl⟩
  | d + 1, k, s, t7, t9, e, h0, h1 => by
    obtain ⟨z, hz⟩ : ∃ z, ws[k]? = some z := ⟨ws[k]'(by omega), List.getElem?_eq_getElem _⟩
    have hc := clip_nn z
    have hcell := cell_of (n := m) hw k z hz
    simp only [cellAt, nth_eq] at hcell
    obtain ⟨t7', t9', ih⟩ := pick_in (AP := AP) (fx := fx) (v0 := v0) (v1 := v1) (v2 := v2) (v3 := v3) (v4 := v4) (v11 := v11) (v12 := v12) (q := q) hw hm hl d (k + 1) (s + clip z) (bool true) (int .i64 z) (by omega) (by omega) (by omega)
    have e2 : ws.drop k = z :: ws.drop (k + 1) := by
      rw [List.getElem?_eq_some_iff] at hz
      obtain ⟨hlt, hz⟩ := hz
      rw [← hz, List.drop_eq_getElem_cons hlt]
    have e3 : s + wsum (ws.drop k) = s + clip z + wsum (ws.drop (k + 1)) := by rw [e2]; simp [wsum]; omega
    refine ⟨t7', t9', RC.loop (RC.mk fun n m' => ?_) (e3 ▸ ih)⟩
    have e4 : s + clip z < 9223372036854775808 := by omega
    have e5 : mmA true (int .i64 z) [int .i64 0] = some (int .i64 (max z 0)) := by
      simp only [mmA, kEq, ilt_eq]
      by_cases hz : z < 0
      · simp [hz]; omega
      · simp [hz]; omega
    have e6 : mmA false (int .i64 (max z 0)) [int .i64 16385] = some (int .i64 (clip z)) := by
      simp only [mmA, kEq, ilt_eq, clip]
      by_cases hz : 16385 < max z 0
      · simp [hz]; omega
      · simp [hz]; omega
    simp [a5l0, e, hcell, oMm, e5, e6, int_i64 (show 0 ≤ s + clip z by omega) e4, succ_i64 (show k < 9223372036854775807 by omega)]

/-- The sum of a window. -/
def wat (zs : List Int) (i m : Nat) : Int := wsum ((zs.drop i).take m)
theorem wat_nn (zs : List Int) (i m : Nat) (hm : m ≤ 16) : 0 ≤ wat zs i m ∧ wat zs i m ≤ 262160 := by
  have := wsum_nn ((zs.drop i).take m)
  have : ((zs.drop i).take m).length ≤ m := List.length_take_le _ _
  unfold wat; omega
def goP (zs : List Int) (m : Nat) : Nat → Nat → Int × Int → Int × Int
  | 0, _, x => x
  | d + 1, i, x => goP zs m d (i + 1) (stepP (wat zs i m) i x)
def goR (zs : List Int) (m : Nat) : Nat → Nat → Int × Int → Int × Int
  | 0, _, x => x
  | d + 1, i, x => goR zs m d (i + 1) (stepR (wat zs i m) i x)
theorem go_inv (zs : List Int) (m : Nat) : ∀ (d i : Nat) (p r : Int × Int), Inv p r → Inv (goP zs m d i p) (goR zs m d i r)
  | 0, _, _, _, h => h
  | d + 1, i, p, r, h => go_inv zs m d (i + 1) _ _ (inv_step h (by omega))
theorem goP_le (zs : List Int) (m : Nat) : ∀ (d i : Nat) (p : Int × Int), -1 ≤ p.2 → p.2 ≤ i + d → -1 ≤ (goP zs m d i p).2 ∧ (goP zs m d i p).2 ≤ i + d
  | 0, _, _, h0, h => ⟨h0, by simpa [goP] using h⟩
  | d + 1, i, p, h0, h => by
    have := goP_le zs m d (i + 1) (stepP (wat zs i m) i p) (by unfold stepP; split <;> (try dsimp only) <;> omega) (by unfold stepP; split <;> (try dsimp only) <;> omega)
    refine ⟨this.1, ?_⟩
    show (goP zs m d (i + 1) (stepP (wat zs i m) i p)).2 ≤ i + (d + 1 : Nat)
    omega
theorem sub_cells {h : H} {b o n i m : Nat} {zs : List Int} (hc : cellsAt h b o n = some (zs.map (int .i64))) (hl : zs.length = n) (hi : i + m ≤ n) : cellsAt h b (o + i) m = some (((zs.drop i).take m).map (int .i64)) := by
  unfold cellsAt at hc ⊢
  split at hc
  · rename_i cs el es kd fz hg
    simp only [part_eq] at hc ⊢
    split at hc
    · rename_i hle
      have h1 := Option.some.inj hc
      rw [if_pos (by omega), Option.some.injEq, List.map_take, List.map_drop, ← h1, List.drop_take, List.take_take, List.drop_drop]
      rw [show min m (n - i) = m by omega]
    · cases hc
  · cases hc
theorem pick_out {AP : AProg} {h : H} {fx : Fx} {b m : Nat} {zs : List Int} {v2 v3 : AVal} (hw : cellsAt h b 0 zs.length = some (zs.map (int .i64))) (hm : m ≤ 16) (hm2 : 2 ≤ m) (hn : zs.length < 9223372036854775000) :
    ∀ (d i : Nat) (x : Int × Int) (t5 t6 t7 t8 t9 t10 : AVal), d = zs.length + 1 - (i + m) → i ≤ zs.length → ∃ t5' t6' t7' t8' t9' t10' i', RC AP (kLoop a5l1) [slice b 0 zs.length (.gr 1), int .i64 m, v2, v3, int .i64 i, t5, t6, t7, t8, t9, t10, int .i64 x.1, int .i64 x.2] fx h
      (.brk (.exit 0) [slice b 0 zs.length (.gr 1), int .i64 m, v2, v3, i', t5', t6', t7', t8', t9', t10', int .i64 (goP zs m d i x).1, int .i64 (goP zs m d i x).2] fx h)
  | 0, i, x, t5, t6, t7, t8, t9, t10, e, hi => ⟨t5, t6, t7, t8, t9, t10, int .i64 i, RC.loopX (RC.mk fun n m' => by
      have e1 : wrapA .i64 ((i : Int) + m) = ((i + m : Nat) : Int) := wrap_i64 (by omega) (by omega)
      have e2 : ¬ ((i + m : Nat) : Int) ≤ zs.length := by omega
      simp [a5l1, e1, e2, goP]) rfl⟩
  | d + 1, i, x, t5, t6, t7, t8, t9, t10, e, hi => by
    have hwin : ((zs.drop i).take m).length = m := by simp; omega
    have hs := sub_cells (i := i) (m := m) hw rfl (by omega)
    rw [Nat.zero_add] at hs
    obtain ⟨t7', t9', n1, hin⟩ := pick_in (AP := AP) (fx := fx) (v0 := slice b 0 zs.length (.gr 1)) (v1 := int .i64 m) (v2 := v2) (v3 := v3) (v4 := int .i64 i) (v11 := int .i64 x.1) (v12 := int .i64 x.2) (q := .gr 1) hs hm hwin m 0 0 t7 t9 (by omega) (by omega) (by omega)
    obtain ⟨u5, u6, u7, u8, u9, u10, i', n2, ih⟩ := pick_out (AP := AP) (fx := fx) (v2 := v2) (v3 := v3) hw hm hm2 hn d (i + 1) (stepP (wat zs i m) i x) (int .i64 m) (int .i64 m) t7' (slice b i m (.gr 1)) t9' (int .i64 (wat zs i m)) (by omega) (by omega)
    refine ⟨u5, u6, u7, u8, u9, u10, i', RC.loop ⟨n1, fun n m' h1 h2 => ?_⟩ ⟨n2, ih⟩⟩
    have h3 := hin n m' h1 h2
    have e1 : wrapA .i64 ((i : Int) + m) = ((i + m : Nat) : Int) := wrap_i64 (by omega) (by omega)
    have e2 : ((i + m : Nat) : Int) ≤ zs.length := by omega
    have e4 : (0 : Int) + wsum (((zs.drop i).take m).drop 0) = wat zs i m := by simp [wat]
    rw [e4, show ((0 : Nat) : Int) = 0 from rfl] at h3
    by_cases hx : wat zs i m < x.1
    · simp [a5l1, e1, e2, h3, show i < zs.length by omega, show i + m ≤ zs.length by omega, show i + m - i = m by omega, hx, stepP, succ_i64 (show i < 9223372036854775807 by omega)]
    · simp [a5l1, e1, e2, h3, show i < zs.length by omega, show i + m ≤ zs.length by omega, show i + m - i = m by omega, hx, stepP, succ_i64 (show i < 9223372036854775807 by omega)]

/-- What Pick answers. -/
def ans (zs : List Int) (m : Int) : Int × Int :=
  if m < 2 ∨ 16 < m then (0, 0) else
    let x := (goP zs m.toNat (zs.length + 1 - m.toNat) 0 (16385, -1)).2
    if x < 0 then (0, 0) else (x, x + m)
def tm5 (v0 v1 : AVal) : TM := [v0, v1, .tup [], .tup [], .tup [], .tup [], .tup [], .tup [], .tup [], .tup [], .tup [], .tup [], .tup []]
theorem pick {AP : AProg} (hg : AP.fn.get 5 = some (.go a5 2 pd11 [.t 2, .t 3])) {h : H} {b : Nat} {zs : List Int} {m : Int} (hw : cellsAt h b 0 zs.length = some (zs.map (int .i64))) (hn : zs.length < 9223372036854775000) :
    RunF AP 5 [slice b 0 zs.length (.gr 1), int .i64 m] h (.tup [int .i64 (ans zs m).1, int .i64 (ans zs m).2]) h := by
  by_cases hm : m < 2 ∨ 16 < m
  · have e : ans zs m = (0, 0) := by unfold ans; rw [if_pos hm]
    rw [e]
    refine RunF.ret (tm := tm5 (slice b 0 zs.length (.gr 1)) (int .i64 m)) (tm' := (tm5 (slice b 0 zs.length (.gr 1)) (int .i64 m)).set 2 (int .i64 0) |>.set 3 (int .i64 0)) (l := [int .i64 0, int .i64 0]) hg (by simp [pd11, tm5]) (RC.mk fun n m' => ?_) (by simp [tm5])
    by_cases h2 : m < 2
    · simp [a5, tm5, h2]
    · simp [a5, tm5, h2, show (16 : Int) < m by omega]
  · obtain ⟨k, rfl⟩ : ∃ k : Nat, m = k := ⟨m.toNat, by omega⟩
    have hk : ¬ (k : Int) < 2 := by omega
    have hk2 : ¬ (16 : Int) < k := by omega
    obtain ⟨t5, t6, t7, t8, t9, t10, i', n1, hl⟩ := pick_out (AP := AP) (fx := ⟨[], none, none⟩) (v2 := int .i64 0) (v3 := int .i64 0) (m := k) hw (by omega) (by omega) hn (zs.length + 1 - k) 0 (16385, -1) (.tup []) (.tup []) (.tup []) (.tup []) (.tup []) (.tup []) (by simp) (by omega)
    rw [show ((0 : Nat) : Int) = 0 from rfl] at hl
    have hle := goP_le zs k (zs.length + 1 - k) 0 (16385, -1) (by dsimp only; omega) (by dsimp only; omega)
    by_cases hx : (goP zs k (zs.length + 1 - k) 0 (16385, -1)).2 < 0
    · have e : ans zs k = (0, 0) := by unfold ans; rw [if_neg hm]; simp [hx]
      rw [e]
      refine RunF.ret (tm := tm5 (slice b 0 zs.length (.gr 1)) (int .i64 k)) (tm' := [slice b 0 zs.length (.gr 1), int .i64 k, int .i64 0, int .i64 0, i', t5, t6, t7, t8, t9, t10, int .i64 (goP zs k (zs.length + 1 - k) 0 (16385, -1)).1, int .i64 (goP zs k (zs.length + 1 - k) 0 (16385, -1)).2]) (l := [int .i64 0, int .i64 0]) hg (by simp [pd11, tm5]) ⟨n1, fun n m' h1 h2 => ?_⟩ (by simp)
      have h3 := hl n m' h1 h2
      simp [a5, tm5, hk, hk2, h3, hx]
    · have e : ans zs k = ((goP zs k (zs.length + 1 - k) 0 (16385, -1)).2, (goP zs k (zs.length + 1 - k) 0 (16385, -1)).2 + k) := by unfold ans; rw [if_neg hm]; simp [hx]
      rw [e]
      generalize hgx : goP zs k (zs.length + 1 - k) 0 (16385, -1) = x at *
      refine RunF.ret (tm := tm5 (slice b 0 zs.length (.gr 1)) (int .i64 k)) (tm' := [slice b 0 zs.length (.gr 1), int .i64 k, int .i64 x.2, int .i64 (x.2 + k), i', t5, t6, t7, t8, t9, t10, int .i64 x.1, int .i64 x.2]) (l := [int .i64 x.2, int .i64 (x.2 + k)]) hg (by simp [pd11, tm5]) ⟨n1, fun n m' h1 h2 => ?_⟩ (by simp)
      have h3 := hl n m' h1 h2
      have e1 : wrapA .i64 (x.2 + k) = x.2 + k := wrap_i64 (by omega) (by omega)
      simp [a5, tm5, hk, hk2, h3, hx, e1]

/-! ### the document's Pick -/
theorem refIn {AP : AProg} {h : H} {fx : Fx} {b o i m : Nat} {c : ACap} {zs : List Int} {v2 v3 v7 v8 : AVal} (hw : cellsAt h b o zs.length = some (zs.map (int .i64))) (hn : zs.length < 9223372036854775000) (hm : m ≤ 16) (hi : i + m ≤ zs.length) :
    ∀ (d k : Nat) (s : Int), i + m = k + d → 0 ≤ s → s + 16385 * d < 9223372036854775808 → RC AP (kLoop a6l0) [slice b o zs.length c, int .i64 m, v2, v3, int .i64 i, int .i64 k, int .i64 s, v7, v8] fx h
      (.brk (.exit 2) [slice b o zs.length c, int .i64 m, v2, v3, int .i64 i, int .i64 (i + m : Nat), int .i64 (s + wsum ((zs.drop k).take d)), v7, v8] fx h)
  | 0, k, s, e, _, _ => RC.loopX (RC.mk fun n m' => by
      have e1 : wrapA .i64 ((i : Int) + m) = ((i + m : Nat) : Int) := wrap_i64 (by omega) (by omega)
      have e2 : ¬ (k : Int) < ((i + m : Nat) : Int) := by omega
      have e3 : ((i + m : Nat) : Int) = k := by omega
      simp [a6l0, e1, e2, wsum]; exact e3.symm) rfl
  | d + 1, k, s, e, h0, h1 => by
    obtain ⟨z, hz⟩ : ∃ z, zs[k]? = some z := ⟨zs[k]'(by omega), List.getElem?_eq_getElem _⟩
    have hc := clip_nn z
    have hcell := cell_of hw k z hz
    simp only [cellAt, nth_eq] at hcell
    have ih := refIn (AP := AP) (fx := fx) (v2 := v2) (v3 := v3) (v7 := v7) (v8 := v8) (c := c) hw hn hm hi d (k + 1) (s + clip z) (by omega) (by omega) (by omega)
    have e2 : zs.drop k = z :: zs.drop (k + 1) := by
      rw [List.getElem?_eq_some_iff] at hz
      obtain ⟨hlt, hz⟩ := hz
      rw [← hz, List.drop_eq_getElem_cons hlt]
    have e3 : s + wsum ((zs.drop k).take (d + 1)) = s + clip z + wsum ((zs.drop (k + 1)).take d) := by rw [e2]; simp [wsum]; omega
    refine RC.loop (RC.mk fun n m' => ?_) (e3 ▸ ih)
    have e1 : wrapA .i64 ((i : Int) + m) = ((i + m : Nat) : Int) := wrap_i64 (by omega) (by omega)
    have e4 : (k : Int) < ((i + m : Nat) : Int) := by omega
    have hz' := clip_eq z
    unfold clipR at hz'
    by_cases g1 : 16384 < z
    · have e5 : wrapA .i64 (s + 16384) = s + 16384 := wrap_i64 (by omega) (by omega)
      rw [if_pos g1] at hz'
      have e6 : wrapA .i64 (s + 16384 + 1) = s + clip z := by rw [wrap_i64 (by omega) (by omega)]; omega
      simp [a6l0, e1, e4, show k < zs.length by omega, hcell, g1, e5, e6, succ_i64 (show k < 9223372036854775807 by omega)]
    · rw [if_neg g1] at hz'
      by_cases g2 : 0 < z
      · rw [if_pos g2] at hz'
        have e5 : wrapA .i64 (s + z) = s + clip z := by rw [wrap_i64 (by omega) (by omega)]; omega
        simp [a6l0, e1, e4, show k < zs.length by omega, hcell, g1, g2, e5, succ_i64 (show k < 9223372036854775807 by omega)]
      · rw [if_neg g2] at hz'
        simp [a6l0, e1, e4, show k < zs.length by omega, hcell, g1, g2, hz', succ_i64 (show k < 9223372036854775807 by omega)]
theorem refOut {AP : AProg} {h : H} {fx : Fx} {v : AVal} {m : Nat} {zs : List Int} {v2 v3 : AVal} (hv : Sl h v zs) (hm : m ≤ 16) (hm2 : 2 ≤ m) (hn : zs.length < 9223372036854775000) :
    ∀ (d i : Nat) (x : Int × Int) (t5 t6 : AVal), d = zs.length + 1 - (i + m) → i ≤ zs.length → ∃ t5' t6' i', RC AP (kLoop a6l1) [v, int .i64 m, v2, v3, int .i64 i, t5, t6, int .i64 x.2, int .i64 x.1] fx h
      (.brk (.exit 0) [v, int .i64 m, v2, v3, i', t5', t6', int .i64 (goR zs m d i x).2, int .i64 (goR zs m d i x).1] fx h)
  | 0, i, x, t5, t6, e, hi => ⟨t5, t6, int .i64 i, RC.loopX (RC.mk fun n m' => by
      have e1 : wrapA .i64 ((i : Int) + m) = ((i + m : Nat) : Int) := wrap_i64 (by omega) (by omega)
      have e2 : ¬ ((i + m : Nat) : Int) ≤ zs.length := by omega
      rcases hv with ⟨rfl | rfl, rfl⟩ | ⟨b, o, c, rfl, hc⟩
      · have e3 : ¬ ((i + m : Nat) : Int) ≤ 0 := by omega
        simp [a6l1, e1, e3, goR, show ¬ m = 0 by omega]
      · have e3 : ¬ ((i + m : Nat) : Int) ≤ 0 := by omega
        simp [a6l1, e1, e3, goR, show ¬ m = 0 by omega]
      · simp [a6l1, e1, e2, goR]) rfl⟩
  | d + 1, i, x, t5, t6, e, hi => by
    obtain ⟨b, o, c, rfl, hw⟩ : ∃ b o c, v = slice b o zs.length c ∧ cellsAt h b o zs.length = some (zs.map (int .i64)) := by
      rcases hv with ⟨_, rfl⟩ | hv
      · simp at e; omega
      · exact hv
    obtain ⟨n1, hin⟩ := refIn (AP := AP) (fx := fx) (v2 := v2) (v3 := v3) (v7 := int .i64 x.2) (v8 := int .i64 x.1) (c := c) hw hn hm (show i + m ≤ zs.length by omega) m i 0 (by omega) (by omega) (by omega)
    obtain ⟨u5, u6, i', n2, ih⟩ := refOut (AP := AP) (fx := fx) (v2 := v2) (v3 := v3) (.inr ⟨b, o, c, rfl, hw⟩) hm hm2 hn d (i + 1) (stepR (wat zs i m) i x) (int .i64 (i + m : Nat)) (int .i64 (wat zs i m)) (by omega) (by omega)
    refine ⟨u5, u6, i', RC.loop ⟨n1, fun n m' h1 h2 => ?_⟩ ⟨n2, ih⟩⟩
    have h3 := hin n m' h1 h2
    have e1 : wrapA .i64 ((i : Int) + m) = ((i + m : Nat) : Int) := wrap_i64 (by omega) (by omega)
    have e2 : ((i + m : Nat) : Int) ≤ zs.length := by omega
    have e4 : (0 : Int) + wsum ((zs.drop i).take m) = wat zs i m := by simp [wat]
    rw [e4] at h3
    have hs := succ_i64 (show i < 9223372036854775807 by omega)
    unfold stepR
    by_cases g1 : wat zs i m ≤ 16384
    · by_cases g2 : x.1 < 0
      · simp [a6l1, e1, e2, h3, g1, g2, hs]
      · by_cases g3 : wat zs i m < x.2
        · simp [a6l1, e1, e2, h3, g1, g2, g3, hs]
        · simp [a6l1, e1, e2, h3, g1, g2, g3, hs]
    · simp [a6l1, e1, e2, h3, g1, hs]
theorem goR_le (zs : List Int) (m : Nat) : ∀ (d i : Nat) (p : Int × Int), -1 ≤ p.1 → p.1 ≤ i + d → -1 ≤ (goR zs m d i p).1 ∧ (goR zs m d i p).1 ≤ i + d
  | 0, _, _, h0, h => ⟨h0, by simpa [goR] using h⟩
  | d + 1, i, p, h0, h => by
    have := goR_le zs m d (i + 1) (stepR (wat zs i m) i p) (by unfold stepR; split <;> (try dsimp only) <;> omega) (by unfold stepR; split <;> (try dsimp only) <;> omega)
    refine ⟨this.1, ?_⟩
    show (goR zs m d (i + 1) (stepR (wat zs i m) i p)).1 ≤ i + (d + 1 : Nat)
    omega
def tm6 (v0 v1 : AVal) : TM := [v0, v1, .tup [], .tup [], .tup [], .tup [], .tup [], .tup [], .tup []]
theorem refPick {AP : AProg} (hg : AP.fn.get 6 = some (.go a6 2 pd7 [.t 2, .t 3])) {h : H} {v : AVal} {zs : List Int} {m : Int} (hv : Sl h v zs) (hn : zs.length < 9223372036854775000) :
    RunF AP 6 [v, int .i64 m] h (.tup [int .i64 (ans zs m).1, int .i64 (ans zs m).2]) h := by
  by_cases hm : m < 2 ∨ 16 < m
  · have e : ans zs m = (0, 0) := by unfold ans; rw [if_pos hm]
    rw [e]
    refine RunF.ret (tm := tm6 v (int .i64 m)) (tm' := (tm6 v (int .i64 m)).set 2 (int .i64 0) |>.set 3 (int .i64 0)) (l := [int .i64 0, int .i64 0]) hg (by simp [pd7, tm6]) (RC.mk fun n m' => ?_) (by simp [tm6])
    by_cases h2 : m < 2
    · simp [a6, tm6, h2]
    · simp [a6, tm6, h2, show (16 : Int) < m by omega]
  · obtain ⟨k, rfl⟩ : ∃ k : Nat, m = k := ⟨m.toNat, by omega⟩
    have hk : ¬ (k : Int) < 2 := by omega
    have hk2 : ¬ (16 : Int) < k := by omega
    obtain ⟨t5, t6, i', n1, hl⟩ := refOut (AP := AP) (fx := ⟨[], none, none⟩) (v2 := int .i64 0) (v3 := int .i64 0) (m := k) hv (by omega) (by omega) hn (zs.length + 1 - k) 0 (-1, 0) (.tup []) (.tup []) (by simp) (by omega)
    rw [show ((0 : Nat) : Int) = 0 from rfl] at hl
    have hle := goR_le zs k (zs.length + 1 - k) 0 (-1, 0) (by dsimp only; omega) (by dsimp only; omega)
    have heq := inv_end (go_inv zs k (zs.length + 1 - k) 0 (16385, -1) (-1, 0) inv0)
    by_cases hx : (goR zs k (zs.length + 1 - k) 0 (-1, 0)).1 < 0
    · have e : ans zs k = (0, 0) := by unfold ans; rw [if_neg hm]; simp [heq, hx]
      rw [e]
      refine RunF.ret (tm := tm6 v (int .i64 k)) (tm' := [v, int .i64 k, int .i64 0, int .i64 0, i', t5, t6, int .i64 (goR zs k (zs.length + 1 - k) 0 (-1, 0)).2, int .i64 (goR zs k (zs.length + 1 - k) 0 (-1, 0)).1]) (l := [int .i64 0, int .i64 0]) hg (by simp [pd7, tm6]) ⟨n1, fun n m' h1 h2 => ?_⟩ (by simp)
      have h3 := hl n m' h1 h2
      simp [a6, tm6, hk, hk2, h3, hx]
    · have e : ans zs k = ((goR zs k (zs.length + 1 - k) 0 (-1, 0)).1, (goR zs k (zs.length + 1 - k) 0 (-1, 0)).1 + k) := by unfold ans; rw [if_neg hm]; simp [heq, hx]
      rw [e]
      generalize hgx : goR zs k (zs.length + 1 - k) 0 (-1, 0) = x at *
      refine RunF.ret (tm := tm6 v (int .i64 k)) (tm' := [v, int .i64 k, int .i64 x.1, int .i64 (x.1 + k), i', t5, t6, int .i64 x.2, int .i64 x.1]) (l := [int .i64 x.1, int .i64 (x.1 + k)]) hg (by simp [pd7, tm6]) ⟨n1, fun n m' h1 h2 => ?_⟩ (by simp)
      have h3 := hl n m' h1 h2
      have e1 : wrapA .i64 (x.1 + k) = x.1 + k := wrap_i64 (by omega) (by omega)
      simp [a6, tm6, hk, hk2, h3, hx, e1]

/-- The law. -/
theorem law {AP : AProg} (g3 : AP.fn.get 3 = some (.go a3 2 pd6 [.t 2])) (g4 : AP.fn.get 4 = some (.go a4 1 pd2 [.t 1])) (g5 : AP.fn.get 5 = some (.go a5 2 pd11 [.t 2, .t 3])) (g6 : AP.fn.get 6 = some (.go a6 2 pd7 [.t 2, .t 3]))
    (g7 : AP.fn.get 7 = some (.go a7 2 pd2 [.t 2])) (g9 : AP.fn.get 9 = some (.go a9 2 pd3 [.t 2])) {h : H} {v : AVal} {zs : List Int} {m : Int} (hv : Sl h v zs) (hn : zs.length < 16777216) (hl : ∀ b o n c, v = slice b o n c → b < h.nx)
    (haw : ∀ h', Old h h' → ∃ h2, RunF AP 8 [] h' (bool true) h2) : ∃ h', RunF AP 3 [v, int .i64 m] h (bool true) h' := by
  obtain ⟨b, h1, ⟨n1, r1⟩, hb, hbn, ho⟩ := lent g4 hv hn
  have hv1 : Sl h1 v zs := by
    rcases hv with ⟨rfl | rfl, rfl⟩ | ⟨b', o, c, rfl, hc⟩
    · exact .inl ⟨.inl rfl, rfl⟩
    · exact .inl ⟨.inr rfl, rfl⟩
    · refine .inr ⟨b', o, c, rfl, ?_⟩
      unfold cellsAt at hc ⊢
      rw [ho.1 b' (hl _ _ _ _ rfl)]; exact hc
  have hin : cellsAt h1 b 0 zs.length = some (zs.map (int .i64)) := by simp [hb]
  obtain ⟨n2, r2⟩ := pick (m := m) g5 hin (by omega)
  obtain ⟨n3, r3⟩ := refPick (m := m) g6 hv1 (by omega)
  obtain ⟨n4, r4⟩ := kept g7 g9 hb hv1 (by omega)
  obtain ⟨h2, n5, r5⟩ := haw h1 ho
  refine ⟨h2, RunF.ret (tm := [v, int .i64 m, .tup [], .tup [], .tup [], .tup [], .tup [], .tup []]) (tm' := [v, int .i64 m, bool true, slice b 0 zs.length (.gr 1), int .i64 (ans zs m).2, int .i64 (ans zs m).2, int .i64 (ans zs m).1, int .i64 (ans zs m).1]) (l := [bool true]) g3 (by simp [pd6]) ⟨n1 + n2 + n3 + n4 + n5, fun n k e1 e2 => ?_⟩ (by simp)⟩
  have q1 := r1 n (by omega)
  have q2 := r2 n (by omega)
  have q3 := r3 n (by omega)
  have q4 := r4 n (by omega)
  have q5 := r5 n (by omega)
  simp [a3, sC, cFn, q1, q2, q3, q4, q5]

open Go.ChangeShapes Go.WideShapes in
/-- A slice of ints among the arguments. -/
theorem arg_ints {S : Go.Ai.Stat} {H : Type} {enc : TypeId × Value → H} {t e : TypeId} {base : Nat} (ht : S.P.underlying t = some (.slice e)) (he : S.P.underlying e = some (.int .i64)) (hc : S.P.cellsOf e = 1) {W : World} {ρ : Rho} {h : Go.Ai.H} (r : HR S ρ h W) (hro : AllRO h) {v0 : Value} {d : DataW H} {p : List MemPlace}
    (hval : Value.okWide S.P W .any base t v0) (h0 : DataW.Trod enc S.P W 0 (fun _ => true) true t v0 d p) :
    ∃ ρ' h' v zs, HR S ρ' h' W ∧ AllRO h' ∧ ρ.le ρ' ∧ VRel ρ' v v0 ∧ Sl h' v zs ∧ (d = .nil ∧ zs = [] ∨ ∃ sp, d = .slice (lits .i64 zs) sp) ∧ Old h h' ∧ (∀ b o n c, v = slice b o n c → b < h'.nx) := by
  obtain ⟨a0, len, cap, rfl⟩ := okWide_slice ht hval
  obtain ⟨fuel, hf⟩ := h0
  rcases open_ints ht he hc hf with ⟨hcs, hx⟩ | ⟨a, len', cap', zs, hcs, _, hl, hm, hz, hx, hcell, hwz⟩
  · simp [Value.cells] at hcs
    obtain ⟨rfl, rfl, rfl⟩ := hcs
    injection hx with h1 h2
    subst h1
    exact ⟨ρ, h, nils, [], r, hro, Rho.le_refl _, .nils, .inl ⟨.inl rfl, rfl⟩, .inl ⟨rfl, rfl⟩, Old.refl h, fun b o n c e => by cases e⟩
  · simp [Value.cells] at hcs
    obtain ⟨rfl, rfl, rfl⟩ := hcs
    injection hx with h1 h2
    subst h1
    simp only [if_true] at hz
    by_cases hn : len = 0
    · subst hn
      exact ⟨ρ, h, emp, [], r, hro, Rho.le_refl _, .emp _ _, .inl ⟨.inr rfl, rfl⟩, .inr ⟨lits .i64 (zs.drop 0), by simp⟩, Old.refl h, fun b o n c e => by cases e⟩
    · obtain ⟨b, off, rfl, hce⟩ := Go.ints_at hcell (by omega)
      obtain ⟨c, el, lo, hi, hW, hsz, hall⟩ := row_of_cells (n := len) (g := fun j => .int .i64 (zs.getD j 0)) (by omega) (fun j hj => hce j (by omega))
      have htl : (zs.take len).length = len := by simp; omega
      obtain ⟨r1, ro1⟩ := r.addRO (es := 1) (fz := false) (cs := (zs.take len).map (int .i64)) hro hW (by simp only [List.length_map, htl]; omega) (fun i a ha => by
        have hi : i < len := by have := (List.getElem?_eq_some_iff.1 ha).1; simp at this; omega
        refine ⟨.int .i64 (zs.getD i 0), hall i hi, rfl, ?_⟩
        rw [List.getElem?_map, List.getElem?_take_of_lt hi] at ha
        obtain ⟨z, hz1, rfl⟩ := Option.map_eq_some_iff.1 ha
        rw [List.getD_eq_getElem?_getD, hz1]
        exact .int _ _)
      refine ⟨_, _, slice h.nx 0 len (.ex cap), zs.take len, r1, ro1, r.le_with _, ?_, .inr ⟨h.nx, 0, .ex cap, by rw [htl], ?_⟩, .inr ⟨_, rfl⟩, ⟨fun c hc => ?_, by simp [nx_new]⟩, fun b o n c e => ?_⟩
      · have := VRel.slice (ρ := ρ.with h.nx ⟨b, off, c.size, 1⟩) h.nx 0 len cap _ (Rho.with_self _ _ _)
        simpa using this
      · simp only [cellsAt, get_new, if_true, part_eq]
        simp only [List.length_map, Nat.zero_add, Nat.le_refl, if_true, List.drop_zero]
        rw [List.take_of_length_le (by simp)]
      · rw [get_new, if_neg (by omega)]
      · injection e with e1; subst e1; simp [nx_new]
open Go.ChangeShapes in
theorem bulk_lits {H : Type} {f : DataW H → Nat} {fa : List (DataW H) → Nat} (h0 : fa [] = 0) (h1 : ∀ d r, fa (d :: r) = f d + fa r) (h2 : ∀ k n, f (.lit (.int k n)) = 1) (k : IntKind) : ∀ zs : List Int, fa (lits k zs) = zs.length
  | [] => by simp [lits, h0]
  | z :: l => by
    have ih := bulk_lits h0 h1 h2 k l
    simp only [lits, List.map_cons, h1, h2, List.length_cons] at ih ⊢
    omega
end Go.Proofs.YthaaihgllpehbaaGreatDoor
