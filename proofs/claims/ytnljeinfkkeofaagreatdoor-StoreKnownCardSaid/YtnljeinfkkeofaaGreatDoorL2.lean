import Derived.Test.YtnljeinfkkeofaaGreatDoorL1
/- An interpreter of the machine, and the proof that what it finds the machine does: part 2. -/
set_option linter.unusedSimpArgs false
set_option linter.unusedVariables false
set_option linter.unusedSectionVars false
set_option linter.unnecessarySimpa false
set_option linter.deprecated false
namespace Go.Ai
open Go

theorem sameO_eq {v : AVal} {o : Option AVal} (h : sameO v o = true) : o = some v := by
  cases o with
  | none => cases h
  | some w => rw [sameV_eq _ _ h]

def envOf (v : Nat → AVal) : Nat → Env
  | 0 => []
  | p + 1 => v p :: envOf v p
theorem envOf_congr {v v' : Nat → AVal} : ∀ {p : Nat}, (∀ q, q < p → v q = v' q) → envOf v p = envOf v' p
  | 0, _ => rfl
  | p + 1, h => by rw [envOf, envOf, h p (by omega), envOf_congr fun q hq => h q (by omega)]
theorem envOf_length (v : Nat → AVal) : ∀ p, (envOf v p).length = p
  | 0 => rfl
  | p + 1 => by simp [envOf, envOf_length v p]
theorem envOf_get (v : Nat → AVal) : ∀ {p q : Nat}, q < p → (envOf v p)[p - 1 - q]? = some (v q)
  | 0, q, h => by omega
  | p + 1, q, h => by
    rcases Nat.lt_or_ge q p with h' | h'
    · have := envOf_get v (p := p) h'
      rw [show p + 1 - 1 - q = (p - 1 - q) + 1 by omega]
      simpa [envOf] using this
    · obtain rfl : q = p := by omega
      rw [show q + 1 - 1 - q = 0 by omega]
      rfl
def kF (L : List DS) (p : Nat) : Nat := ((L.take p).filter fun x => isF x.1).length
theorem kF_succ {L : List DS} {p : Nat} {x : DS} (h : L[p]? = some x) : kF L (p + 1) = if isF x.1 then kF L p + 1 else kF L p := by
  unfold kF
  rw [List.take_add_one, h]
  simp only [Option.toList_some, List.filter_append, List.length_append]
  cases hx : isF x.1 <;> simp [hx]
theorem kF_mono {L : List DS} {p q : Nat} (h : p ≤ q) : kF L p ≤ kF L q := by
  unfold kF
  have : L.take p = (L.take q).take p := by rw [List.take_take]; congr 1; omega
  rw [this]
  exact (List.Sublist.filter _ (List.take_sublist _ _)).length_le
theorem kF_lt {L : List DS} {p q : Nat} {x : DS} (h : L[p]? = some x) (hx : isF x.1 = true) (hpq : p < q) : kF L p < kF L q := by
  have h1 := kF_succ h
  rw [hx, if_pos rfl] at h1
  have := kF_mono (L := L) (show p + 1 ≤ q by omega)
  omega

section
variable (rc : Rc) (tm : TM) (L : List DS) (base nf : Nat)
def StepAt (v : Nat → AVal) (hh : Nat → H) (p : Nat) (x : DS) : Prop :=
  chkM (hh p) (base + kF L p) (nf - kF L p) x.1 = true ∧
  ((wantD tm (envOf v p) x.2 = some false ∧ v p = .tup [] ∧ hh (p + 1) = hh p) ∨
  (wantD tm (envOf v p) x.2 = some true ∧ stepD rc tm (envOf v p) (hh p) (base + kF L p) x.1 = some (v p, hh (p + 1))))
def evAt (v : Nat → AVal) (hh : Nat → H) (p : Nat) : DEv :=
  ⟨match L[p]? with
    | some x => rdD x.1 tm (envOf v p) (wantD tm (envOf v p) x.2 == some true)
    | none => fun _ => none, v p, hh p, hh (p + 1)⟩
structure Run (v : Nat → AVal) (hh : Nat → H) (evs : List DEv) : Prop where
  at_ : ∀ p x, L[p]? = some x → StepAt rc tm L base nf v hh p x
  evs : ∀ p, p < L.length → evs[L.length - 1 - p]? = some (evAt tm L v hh p)
end

theorem StepAt.congr {rc : Rc} {tm : TM} {L : List DS} {base nf : Nat} {v v' : Nat → AVal} {hh hh' : Nat → H} {p : Nat} {x : DS} (h : StepAt rc tm L base nf v hh p x) (hv : ∀ q, q ≤ p → v q = v' q) (h0 : hh p = hh' p) (h1 : hh (p + 1) = hh' (p + 1)) :
    StepAt rc tm L base nf v' hh' p x := by
  unfold StepAt at *
  rw [← envOf_congr (v := v) (v' := v') fun q hq => hv q (by omega), ← hv p (Nat.le_refl p), ← h0, ← h1]
  exact h
theorem evAt_congr {tm : TM} {L : List DS} {v v' : Nat → AVal} {hh hh' : Nat → H} {p : Nat} (hv : ∀ q, q ≤ p → v q = v' q) (h0 : hh p = hh' p) (h1 : hh (p + 1) = hh' (p + 1)) : evAt tm L v hh p = evAt tm L v' hh' p := by
  unfold evAt
  rw [← envOf_congr (v := v) (v' := v') fun q hq => hv q (by omega), ← hv p (Nat.le_refl p), ← h0, ← h1]

theorem stepsD_trace {rc : Rc} {tm : TM} {base nf : Nat} {K : Env → List DEv → H → Outs} (L0 : List DS) : ∀ (L : List DS) (p0 : Nat) (v0 : Nat → AVal) (hh0 : Nat → H) (evs : List DEv), (∀ i, L[i]? = L0[p0 + i]?) → p0 + L.length = L0.length →
    evs.length = p0 → (∀ p, p < p0 → evs[p0 - 1 - p]? = some (evAt tm L0 v0 hh0 p)) → (∀ p x, p < p0 → L0[p]? = some x → StepAt rc tm L0 base nf v0 hh0 p x) →
    stepsD rc tm L (base + kF L0 p0) (nf - kF L0 p0) (envOf v0 p0) evs (hh0 p0) K = .bad ∨
    ∃ v hh evs', hh 0 = hh0 0 ∧ Run rc tm L0 base nf v hh evs' ∧ stepsD rc tm L (base + kF L0 p0) (nf - kF L0 p0) (envOf v0 p0) evs (hh0 p0) K = K (envOf v L0.length) evs' (hh L0.length)
  | [], p0, v0, hh0, evs, hL, hlen, hel, hev, hst => by
    simp only [List.length_nil, Nat.add_zero] at hlen
    subst hlen
    exact .inr ⟨v0, hh0, evs, rfl, ⟨fun p x hp => hst p x (List.getElem?_eq_some_iff.1 hp).1 hp, hev⟩, rfl⟩
  | (s, g) :: L, p0, v0, hh0, evs, hL, hlen, hel, hev, hst => by
    have hx : L0[p0]? = some (s, g) := by have := hL 0; simpa using this.symm
    have hL' : ∀ i, L[i]? = L0[p0 + 1 + i]? := by
      intro i
      have := hL (i + 1)
      rw [show p0 + 1 + i = p0 + (i + 1) by omega]
      simpa using this
    have go : ∀ (u : AVal) (h' : H), (∀ v hh, (∀ q, q < p0 → v q = v0 q) → v p0 = u → hh p0 = hh0 p0 → hh (p0 + 1) = h' → StepAt rc tm L0 base nf v hh p0 (s, g) ∧
          evAt tm L0 v hh p0 = ⟨rdD s tm (envOf v0 p0) (wantD tm (envOf v0 p0) g == some true), u, hh0 p0, h'⟩) →
        stepsD rc tm L (base + kF L0 (p0 + 1)) (nf - kF L0 (p0 + 1)) (u :: envOf v0 p0) (⟨rdD s tm (envOf v0 p0) (wantD tm (envOf v0 p0) g == some true), u, hh0 p0, h'⟩ :: evs) h' K = .bad ∨
        ∃ v hh evs', hh 0 = hh0 0 ∧ Run rc tm L0 base nf v hh evs' ∧ stepsD rc tm L (base + kF L0 (p0 + 1)) (nf - kF L0 (p0 + 1)) (u :: envOf v0 p0) (⟨rdD s tm (envOf v0 p0) (wantD tm (envOf v0 p0) g == some true), u, hh0 p0, h'⟩ :: evs) h' K =
          K (envOf v L0.length) evs' (hh L0.length) := by
      intro u h' hat
      let v1 : Nat → AVal := fun q => if q = p0 then u else v0 q
      let hh1 : Nat → H := fun q => if q = p0 + 1 then h' else hh0 q
      have hv1 : ∀ q, q < p0 → v1 q = v0 q := fun q hq => by simp only [v1]; rw [if_neg (by omega)]
      have hh1' : ∀ q, q ≤ p0 → hh1 q = hh0 q := fun q hq => by simp only [hh1]; rw [if_neg (by omega)]
      have hvp : v1 p0 = u := by simp [v1]
      have hhp : hh1 (p0 + 1) = h' := by simp [hh1]
      obtain ⟨hs1, he1⟩ := hat v1 hh1 hv1 hvp (hh1' p0 (Nat.le_refl _)) hhp
      have he : envOf v1 (p0 + 1) = u :: envOf v0 p0 := by rw [envOf, hvp, envOf_congr hv1]
      have ih := stepsD_trace (rc := rc) (tm := tm) (base := base) (nf := nf) (K := K) L0 L (p0 + 1) v1 hh1 (⟨rdD s tm (envOf v0 p0) (wantD tm (envOf v0 p0) g == some true), u, hh0 p0, h'⟩ :: evs) hL' (by simp at hlen; omega) (by simp [hel])
        (by
          intro p hp
          rcases Nat.lt_or_ge p p0 with h2 | h2
          · rw [show p0 + 1 - 1 - p = (p0 - 1 - p) + 1 by omega, List.getElem?_cons_succ, hev p h2]
            congr 1
            exact evAt_congr (fun q hq => (hv1 q (by omega)).symm) (hh1' p (by omega)).symm (hh1' (p + 1) (by omega)).symm
          · obtain rfl : p = p0 := by omega
            rw [show p + 1 - 1 - p = 0 by omega, he1]; rfl)
        (by
          intro p x hp hpx
          rcases Nat.lt_or_ge p p0 with h2 | h2
          · exact (hst p x h2 hpx).congr (fun q hq => (hv1 q (by omega)).symm) (hh1' p (by omega)).symm (hh1' (p + 1) (by omega)).symm
          · obtain rfl : p = p0 := by omega
            rw [hx] at hpx
            obtain rfl := Option.some.inj hpx
            exact hs1)
      rw [he, hhp] at ih
      rcases ih with ih | ⟨v, hh, evs', h1, h2, h3⟩
      · exact .inl ih
      · exact .inr ⟨v, hh, evs', by rw [h1, hh1' 0 (by omega)], h2, h3⟩
    have hk := kF_succ hx
    have evEq : ∀ (v : Nat → AVal) (hh : Nat → H), (∀ q, q < p0 → v q = v0 q) → evAt tm L0 v hh p0 = ⟨rdD s tm (envOf v0 p0) (wantD tm (envOf v0 p0) g == some true), v p0, hh p0, hh (p0 + 1)⟩ := by
      intro v hh hv
      unfold evAt
      rw [hx, envOf_congr hv]
    simp only [stepsD]
    cases hc : chkM (hh0 p0) (base + kF L0 p0) (nf - kF L0 p0) s with
    | false => exact .inl rfl
    | true =>
    simp only
    cases hw : wantD tm (envOf v0 p0) g with
    | none => exact .inl rfl
    | some bw =>
      cases bw with
      | false =>
        have hgo := go (.tup []) (hh0 p0) (by
          intro v hh hv hvp hhp hhq
          refine ⟨⟨by rw [hhp]; exact hc, .inl ⟨by rw [envOf_congr hv]; exact hw, hvp, by rw [hhq, hhp]⟩⟩, ?_⟩
          rw [evEq v hh hv, hvp, hhp, hhq])
        have hb : (wantD tm (envOf v0 p0) g == some true) = false := by rw [hw]; rfl
        rw [hb] at hgo
        simp only
        cases hf : isF s with
        | true =>
          simp only [hf, if_true] at hk
          have e1 : base + kF L0 (p0 + 1) = Nat.succ (base + kF L0 p0) := by omega
          have e2 : nf - kF L0 (p0 + 1) = Nat.pred (nf - kF L0 p0) := by rw [Nat.pred_eq_sub_one]; omega
          rw [e1, e2] at hgo
          exact hgo
        | false =>
          simp only [hf, Bool.false_eq_true, if_false] at hk
          rw [hk] at hgo
          exact hgo
      | true =>
        simp only
        cases hs : stepD rc tm (envOf v0 p0) (hh0 p0) (base + kF L0 p0) s with
        | none => exact .inl rfl
        | some r =>
          obtain ⟨u, h'⟩ := r
          have hgo := go u h' (by
            intro v hh hv hvp hhp hhq
            refine ⟨⟨by rw [hhp]; exact hc, .inr ⟨by rw [envOf_congr hv]; exact hw, by rw [envOf_congr hv, hhp, hhq, hvp]; exact hs⟩⟩, ?_⟩
            rw [evEq v hh hv, hvp, hhp, hhq])
          have hb : (wantD tm (envOf v0 p0) g == some true) = true := by rw [hw]; rfl
          rw [hb] at hgo
          simp only
          cases hf : isF s with
          | true =>
            simp only [hf, if_true] at hk
            have e1 : base + kF L0 (p0 + 1) = Nat.succ (base + kF L0 p0) := by omega
            have e2 : nf - kF L0 (p0 + 1) = Nat.pred (nf - kF L0 p0) := by rw [Nat.pred_eq_sub_one]; omega
            rw [e1, e2] at hgo
            exact hgo
          | false =>
            simp only [hf, Bool.false_eq_true, if_false] at hk
            rw [hk] at hgo
            exact hgo
theorem stepsD_run {rc : Rc} {tm : TM} {base nf : Nat} {K : Env → List DEv → H → Outs} (L : List DS) (h : H) : stepsD rc tm L base nf [] [] h K = .bad ∨
    ∃ v hh evs, hh 0 = h ∧ Run rc tm L base nf v hh evs ∧ stepsD rc tm L base nf [] [] h K = K (envOf v L.length) evs (hh L.length) := by
  have := stepsD_trace (rc := rc) (tm := tm) (base := base) (nf := nf) (K := K) L L 0 (fun _ => .nils) (fun _ => h) [] (fun i => by rw [Nat.zero_add]) (by simp) rfl (fun p hp => by omega) (fun p x hp => by omega)
  simpa [kF, envOf] using this
end Go.Ai

namespace Go.Ai
open Go
variable {S : Stat} {ρ ρ0 : Rho} {h h0 : H} {w w0 : World}

theorem get_mk (h : H) (n b : Nat) : (⟨h.o, n⟩ : H).get b = h.get b := rfl
theorem HR.reserve (r : HR S ρ h w) (n : Nat) : HR S ρ ⟨h.o, h.nx + n⟩ w ∧ Ext ρ h w ρ ⟨h.o, h.nx + n⟩ w := by
  refine ⟨⟨fun b pl hb => ?_, r.obj, r.inj, fun b x hx => ?_⟩, ⟨Rho.le_refl ρ, ?_, Nat.le_refl _, rfl, rfl, fun _ _ _ => rfl, fun _ h => .inl h, fun _ h => .inl h, fun _ _ h => .inl h⟩⟩
  · have := r.bound b pl hb; exact ⟨Nat.lt_of_lt_of_le this.1 (Nat.le_add_right _ _), this.2⟩
  · exact Nat.lt_of_lt_of_le (r.live b x hx) (Nat.le_add_right _ _)
  · exact Nat.le_add_right _ _
theorem HR.putNone (r : HR S ρ h w) {b : Nat} (x : AObj) (hb : ρ b = none) (hlt : b < h.nx) : HR S ρ (h.put b x) w ∧ Ext ρ h w ρ (h.put b x) w := by
  have hget : ∀ b' pl, ρ b' = some pl → (h.put b x).get b' = h.get b' := by
    intro b' pl hb'
    rw [get_put, if_neg]
    rintro rfl
    rw [hb] at hb'; cases hb'
  refine ⟨⟨r.bound, ?_, ?_, ?_⟩, ⟨Rho.le_refl ρ, Nat.le_refl _, Nat.le_refl _, rfl, rfl, fun _ _ _ => rfl, ?_, ?_, fun _ _ h => .inl h⟩⟩
  · intro b' pl y hb' hy
    rw [hget _ _ hb'] at hy
    exact r.obj _ _ _ hb' hy
  · intro b1 b2 p1 p2 y1 y2 h1 h2 h3 h4
    rw [hget _ _ h1] at h3
    rw [hget _ _ h2] at h4
    exact r.inj _ _ _ _ _ _ h1 h2 h3 h4
  · intro b' y hy
    rw [get_put] at hy
    split at hy
    · rename_i e; subst e; exact hlt
    · exact r.live _ _ hy
  · rintro cb ⟨b', p, y, h1, h2, h3, h4⟩
    rw [hget _ _ h1] at h2
    exact .inl ⟨b', p, y, h1, h2, h3, h4⟩
  · rintro cb ⟨b', p, y, h1, h2, h4⟩
    rw [hget _ _ h1] at h2
    exact .inl ⟨b', p, y, h1, h2, h4⟩
theorem HR.install (r : HR S ρ h w) {b : Nat} {pl : Place} {x : AObj} {o : Obj} (hb : ρ b = some pl) (ho : w.heap[pl.blk]? = some o) (hx : ObjR S ρ x pl o) (hl : ¬ Liv ρ h pl.blk) : HR S ρ (h.put b x) w := by
  refine ⟨r.bound, ?_, ?_, ?_⟩
  · intro b' p y hb' hy
    rw [get_put] at hy
    split at hy
    · rename_i e; subst e
      obtain rfl := Option.some.inj hy
      obtain rfl : pl = p := Option.some.inj (hb.symm.trans hb')
      exact ⟨o, ho, hx⟩
    · exact r.obj _ _ _ hb' hy
  · intro b1 b2 p1 p2 y1 y2 h1 h2 h3 h4 hne he
    rw [get_put] at h3 h4
    split at h3
    · rename_i e; subst e
      rw [if_neg hne] at h4
      obtain rfl : pl = p1 := Option.some.inj (hb.symm.trans h1)
      exact absurd ⟨b2, p2, y2, h2, h4, he.symm⟩ hl
    · rename_i e1
      split at h4
      · rename_i e2; subst e2
        obtain rfl : pl = p2 := Option.some.inj (hb.symm.trans h2)
        exact absurd ⟨b1, p1, y1, h1, h3, he⟩ hl
      · exact r.inj _ _ _ _ _ _ h1 h2 h3 h4 hne he
  · intro b' y hy
    rw [get_put] at hy
    split at hy
    · rename_i e; subst e; exact (r.bound _ _ hb).1
    · exact r.live _ _ hy
theorem Ext.install (x : Ext ρ0 h0 w0 ρ h w) {b : Nat} {pl : Place} (y : AObj) (hb : ρ b = some pl) (hlt : w0.heap.size ≤ pl.blk) : Ext ρ0 h0 w0 ρ (h.put b y) w := by
  refine ⟨x.le, x.nx, x.size, x.os, x.out, x.frame, ?_, ?_, x.new⟩
  · rintro cb ⟨b', p, z, h1, h2, h3, h4⟩
    rw [get_put] at h2
    split at h2
    · rename_i e; subst e
      obtain rfl : pl = p := Option.some.inj (hb.symm.trans h1)
      exact .inr (h4 ▸ hlt)
    · exact x.img cb ⟨b', p, z, h1, h2, h3, h4⟩
  · rintro cb ⟨b', p, z, h1, h2, h4⟩
    rw [get_put] at h2
    split at h2
    · rename_i e; subst e
      obtain rfl : pl = p := Option.some.inj (hb.symm.trans h1)
      exact .inr (h4 ▸ hlt)
    · exact x.liv cb ⟨b', p, z, h1, h2, h4⟩
theorem Rho.le_with' {b : Nat} (pl : Place) (hb : ρ b = none) : ρ.le (ρ.with b pl) := by
  intro b' p h
  unfold Rho.with
  rw [if_neg]
  · exact h
  · rintro rfl; rw [hb] at h; cases h
theorem HR.allocAt (r : HR S ρ h w) {b : Nat} {pl : Place} {o : Obj} (hb : ρ b = none) (hlt : b < h.nx) (hblk : pl.blk = w.heap.size) (hx : ∀ x, h.get b = some x → ObjR S (ρ.with b pl) x pl o) : HR S (ρ.with b pl) h (World.alloc w o) := by
  have hle := Rho.le_with' pl hb
  refine ⟨?_, ?_, ?_, r.live⟩
  · intro b' p hb'
    unfold Rho.with at hb'
    have hs : (World.alloc w o).heap.size = w.heap.size + 1 := by show (w.heap.push o).size = _; simp
    rw [hs]
    split at hb'
    · rename_i e; subst e
      obtain rfl := Option.some.inj hb'
      exact ⟨hlt, by omega⟩
    · have := r.bound _ _ hb'; exact ⟨this.1, by omega⟩
  · intro b' p y hb' hy
    unfold Rho.with at hb'
    split at hb'
    · rename_i e; subst e
      obtain rfl := Option.some.inj hb'
      exact ⟨o, by rw [alloc_get, if_pos hblk], hx y hy⟩
    · obtain ⟨o', ho', hr⟩ := r.obj _ _ _ hb' hy
      refine ⟨o', ?_, hr.mono hle⟩
      have := (r.bound _ _ hb').2
      rw [alloc_get, if_neg (by omega)]; exact ho'
  · intro b1 b2 p1 p2 y1 y2 h1 h2 h3 h4 hne he
    unfold Rho.with at h1 h2
    split at h1 <;> split at h2
    · rename_i e1 e2; exact absurd (e1.trans e2.symm) hne
    · obtain rfl := Option.some.inj h1
      have := (r.bound _ _ h2).2; omega
    · obtain rfl := Option.some.inj h2
      have := (r.bound _ _ h1).2; omega
    · exact r.inj _ _ _ _ _ _ h1 h2 h3 h4 hne he
theorem Ext.allocAt (x : Ext ρ0 h0 w0 ρ h w) {b : Nat} {pl : Place} (o : Obj) (hb : ρ b = none) (hnx : h0.nx ≤ b) (hblk : pl.blk = w.heap.size) : Ext ρ0 h0 w0 (ρ.with b pl) h (World.alloc w o) := by
  have hs : (World.alloc w o).heap.size = w.heap.size + 1 := by show (w.heap.push o).size = _; simp
  have hsz := x.size
  refine ⟨Rho.le_trans x.le (Rho.le_with' pl hb), x.nx, by omega, x.os, x.out, ?_, ?_, ?_, ?_⟩
  · intro cb hlt hn
    rw [alloc_get, if_neg (by omega)]
    exact x.frame cb hlt hn
  · rintro cb ⟨b', p, z, h1, h2, h3, h4⟩
    unfold Rho.with at h1
    split at h1
    · obtain rfl := Option.some.inj h1; right; omega
    · exact x.img cb ⟨b', p, z, h1, h2, h3, h4⟩
  · rintro cb ⟨b', p, z, h1, h2, h4⟩
    unfold Rho.with at h1
    split at h1
    · obtain rfl := Option.some.inj h1; right; omega
    · exact x.liv cb ⟨b', p, z, h1, h2, h4⟩
  · intro b' p h1
    unfold Rho.with at h1
    split at h1
    · rename_i e; subst e; exact .inr hnx
    · exact x.new _ _ h1
theorem HR.undo {b : Nat} {x : AObj} (r : HR S ρ (h.put b x) w) (hb : h.get b = none) : HR S ρ h w := by
  refine (r.kill b).1.congr ⟨fun b' => ?_, rfl⟩
  rw [get_kill, get_put]
  split
  · rename_i e; subst e; exact hb
  · rfl
theorem allNone_get {h : H} : ∀ {b n : Nat}, allNone h b n = true → ∀ i, b ≤ i → i < b + n → h.get i = none
  | b, 0, _, i, h1, h2 => by omega
  | b, n + 1, ha, i, h1, h2 => by
    simp only [allNone] at ha
    split at ha
    · rename_i hb
      rcases Nat.lt_or_ge b i with h3 | h3
      · exact allNone_get ha i h3 (by omega)
      · obtain rfl : i = b := by omega
        exact hb
    · cases ha

variable {keep : List Nat} {c : CS}
theorem calloc_ok {o : Oper} {op : AOp} (hc : calloc S.P keep c o = some op) : ∃ f, op.denV = none ∧ op.denH = some f ∧ ∀ (tm : TM) (e : Env) (h h' : H) (v : AVal) (ρ : Rho) (w : World) (ev : Operand → Value), SoR S keep c ρ tm e ev → f tm e h = .ok v h' →
    ∃ x, h' = h.new x ∧ NewOk S ρ w ev o v h.nx x := by
  unfold calloc at hc
  split at hc
  · rename_i el X hop
    cases hx : copd S.P keep c X with
    | none => rw [hx] at hc; cases hc
    | some x =>
      rw [hx] at hc
      obtain rfl := Option.some.inj hc
      exact ⟨_, rfl, rfl, fun tm e h h' v ρ w ev hso hf => box_new hop (copd_so hso hx) hf⟩
  · rename_i el hop
    cases hz : zeroOf S.P el with
    | none => rw [hz] at hc; cases hc
    | some z =>
      rw [hz] at hc
      obtain rfl := Option.some.inj hc
      exact ⟨_, rfl, rfl, fun tm e h h' v ρ w ev hso hf => alloc_new hop hz hf⟩
  · rename_i t n ps hop
    simp only [cBsl, Option.bind_eq_bind, Option.bind_eq_some_iff] at hc
    obtain ⟨el, hel, es, hes, z, hz, hc⟩ := hc
    split at hc
    · rename_i hcond
      cases hp : cparts S.P keep c (fun i => some (i * es, es)) ps.toList with
      | none => rw [hp] at hc; cases hc
      | some ps' =>
        rw [hp] at hc
        obtain rfl := Option.some.inj hc
        exact ⟨_, rfl, rfl, fun tm e h h' v ρ w ev hso hf => bsl_new hop (elOf_under hel) hes hz hcond.2 hcond.1 (cparts_so hso hp) hf⟩
    · cases hc
  · rename_i t L C hop
    split at hc
    · rename_i l m hl hm
      simp only [cMksl, Option.bind_eq_bind, Option.bind_eq_some_iff] at hc
      obtain ⟨el, hel, es, hes, z, hz, hc⟩ := hc
      split at hc
      · rename_i hcond
        obtain rfl := Option.some.inj hc
        exact ⟨_, rfl, rfl, fun tm e h h' v ρ w ev hso hf => mksl_new hop (elOf_under hel) hes hz hcond.1 hcond.2 (copd_so hso hl) (copd_so hso hm) hf⟩
      · cases hc
    · cases hc
  · rename_i s t X hop
    split at hc
    · rename_i x hx
      split at hc
      · rename_i el y hcv
        obtain rfl := Option.some.inj hc
        unfold cConv at hcv
        split at hcv
        · cases hcv
        · cases hcv
        · split at hcv <;> cases hcv
        · rename_i e hs hd
          split at hcv
          · rename_i hel _
            cases hcv
            exact ⟨_, rfl, rfl, fun tm e h h' v ρ w ev hso hf => s2b_new hop hs hd hel (copd_so hso hx) hf⟩
          · cases hcv
        · split at hcv
          · split at hcv <;> cases hcv
          · cases hcv
        · simp only [Option.bind_eq_bind, Option.bind_eq_some_iff] at hcv
          obtain ⟨n, hn, hcv⟩ := hcv
          split at hcv <;> cases hcv
        · simp only [Option.bind_eq_bind, Option.bind_eq_some_iff] at hcv
          obtain ⟨n, hn, hcv⟩ := hcv
          split at hcv <;> cases hcv
        · cases hcv
      · cases hc
    · cases hc
  · cases hc

theorem memK_pure {op : AOp} {f : VOp} (hm : memK op = 0) (hd : op.denV = some f) (tm : TM) (e : Env) (h h' : H) : f tm e h = f tm e h' := by
  cases op <;> simp [memK] at hm <;> simp [AOp.denV] at hd <;> subst hd <;> try rfl
  rename_i op kd x y
  simp only [oBin]
  cases x.den tm e with
  | none => rfl
  | some a =>
    simp only
    cases y.den tm e with
    | none => rfl
    | some b =>
      simp only [binA]
      split
      · rfl
      · rfl
      · simp only [binE]
        cases op <;> simp at hm <;> rfl
end Go.Ai

namespace Go.Ai
open Go

theorem foldl_bits (acc : List Nat) (i : Nat) : ∀ (l : List Edge) (s : Nat), (l.foldl (fun s e => if Region.binds .any e then s ||| 2 ^ e.on ||| acc.getD e.on 0 else s) s).testBit i = true →
    s.testBit i = true ∨ ∃ e ∈ l, Region.binds .any e = true ∧ (i = e.on ∨ (acc.getD e.on 0).testBit i = true)
  | [], s, h => .inl h
  | e :: l, s, h => by
    rw [List.foldl_cons] at h
    rcases foldl_bits acc i l _ h with h1 | ⟨e', h1, h2⟩
    · split at h1
      · rename_i hb
        rw [Nat.testBit_or, Nat.testBit_or, Bool.or_eq_true, Bool.or_eq_true] at h1
        rcases h1 with (h1 | h1) | h1
        · exact .inl h1
        · refine .inr ⟨e, by simp, hb, .inl ?_⟩
          rw [Nat.testBit_two_pow] at h1
          have : e.on = i := by simpa using h1
          exact this.symm
        · exact .inr ⟨e, by simp, hb, .inr h1⟩
      · exact .inl h1
    · exact .inr ⟨e', List.mem_cons_of_mem _ h1, h2⟩
theorem befs_spec : ∀ (l : List Oper) (acc : List Nat), (befs l acc).length = acc.length + l.length ∧ (befs l acc).take acc.length = acc ∧ ∀ j o, l[j]? = some o → (befs l acc)[acc.length + j]? = some (befOne o ((befs l acc).take (acc.length + j)))
  | [], acc => ⟨rfl, by simp [befs], fun j o h => by simp at h⟩
  | o :: l, acc => by
    obtain ⟨h1, h2, h3⟩ := befs_spec l (acc ++ [befOne o acc])
    simp only [List.length_append, List.length_singleton] at h1 h2 h3
    have ht : (befs l (acc ++ [befOne o acc])).take acc.length = acc := by
      have := congrArg (List.take acc.length) h2
      rw [List.take_take, Nat.min_eq_left (by omega)] at this
      rw [this]; simp
    refine ⟨by simp only [befs, h1, List.length_cons]; omega, ht, ?_⟩
    intro j o' hj
    cases j with
    | zero =>
      simp at hj; subst hj
      have := congrArg (fun l => l[acc.length]?) h2
      simp only [List.getElem?_take] at this
      rw [if_pos (by omega)] at this
      simp only [befs, Nat.add_zero, ht]
      rw [this]; simp
    | succ j =>
      have := h3 j o' (by simpa using hj)
      simp only [befs]
      rw [show acc.length + (j + 1) = acc.length + 1 + j by omega]
      exact this
theorem ord_closed {ops : List Oper} {D : Nat → Prop} (hc : ∀ j o, ops[j]? = some o → D j → ∀ e ∈ o.after.toList, Region.binds .any e = true → D e.on) :
    ∀ (j : Nat) (o : Oper), ops[j]? = some o → (∀ e ∈ o.after.toList, Region.binds .any e = true → D e.on) → ∀ i, ordB (befs ops []) i j = true → D i := by
  intro j
  induction j using Nat.strongRecOn with
  | ind j ih =>
    intro o ho he i hi
    obtain ⟨h1, h2, h3⟩ := befs_spec ops []
    have hb := h3 j o ho
    simp only [List.length_nil, Nat.zero_add] at hb h1
    unfold ordB at hi
    rw [List.getD_eq_getElem?_getD, hb, Option.getD_some] at hi
    unfold befOne at hi
    rcases foldl_bits _ _ _ _ hi with h4 | ⟨e, h4, h5, h6⟩
    · simp at h4
    · rcases h6 with rfl | h6
      · exact he e h4 h5
      · have hlt : e.on < j := by
          rcases Nat.lt_or_ge e.on j with h | h
          · exact h
          · rw [List.getD_eq_getElem?_getD, List.getElem?_eq_none (by simp; omega)] at h6
            simp at h6
        have hjl : j < ops.length := (List.getElem?_eq_some_iff.1 ho).1
        have ho' : ops[e.on]? = some (ops[e.on]'(by omega)) := List.getElem?_eq_getElem (by omega)
        refine ih e.on hlt _ ho' (hc _ _ ho' (he e h4 h5)) i ?_
        unfold ordB
        rw [List.getD_eq_getElem?_getD, List.getElem?_take, if_pos hlt] at h6
        rw [List.getD_eq_getElem?_getD]; exact h6
theorem aftOk_get : ∀ {l : List Oper} {i j : Nat} {o : Oper}, aftOk l i = true → l[j]? = some o → ∀ e ∈ o.after.toList, Region.binds .any e = true → e.on < i + j
  | [], i, j, o, _, h => by simp at h
  | x :: l, i, j, o, ha, h => by
    simp only [aftOk, Bool.and_eq_true] at ha
    cases j with
    | zero =>
      simp at h; subst h
      intro e he hb
      have := List.all_eq_true.1 ha.1 e he
      simp [hb, Nat.blt_eq] at this
      omega
    | succ j =>
      intro e he hb
      have := aftOk_get ha.2 (by simpa using h) e he hb
      omega

def dsAt (L : List DI) (p : Nat) : List (Option Nat) := ((L.take p).map fun x => x.o.dst).reverse
theorem dsAt_cons {L : List DI} {x : DI} {p : Nat} : dsAt (x :: L) (p + 1) = dsAt L p ++ [x.o.dst] := by simp [dsAt]

section
variable {P : Program} {keep : List Nat}
theorem compD_ok {all : List Oper} : ∀ {l : List (Oper × Nat)} {ds : List (Option Nat)} {L : List DI}, compD P keep all ds l = some L → L.map (fun x => (x.o, x.i)) = l ∧
    ∀ p x, L[p]? = some x → guardOf P keep all (csD (dsAt L p ++ ds) (looksOf all x.o)) x.o = some x.g ∧
      ((calloc P keep (csD (dsAt L p ++ ds) (looksOf all x.o)) x.o = some x.op ∧ x.k = 4) ∨ (cstep P keep (csD (dsAt L p ++ ds) (looksOf all x.o)) x.o = some x.op ∧ x.k = kindD x.op))
  | [], ds, L, h => by obtain rfl := Option.some.inj h; exact ⟨rfl, fun p x h => by simp at h⟩
  | (o, i) :: l, ds, L, h => by
    simp only [compD] at h
    have fin : ∀ {y : DI} {r : List DI}, compD P keep all (o.dst :: ds) l = some r → y.o = o → y.i = i → (guardOf P keep all (csD ds (looksOf all o)) o = some y.g ∧
        ((calloc P keep (csD ds (looksOf all o)) o = some y.op ∧ y.k = 4) ∨ (cstep P keep (csD ds (looksOf all o)) o = some y.op ∧ y.k = kindD y.op))) → L = y :: r →
        L.map (fun x => (x.o, x.i)) = (o, i) :: l ∧ ∀ p x, L[p]? = some x → guardOf P keep all (csD (dsAt L p ++ ds) (looksOf all x.o)) x.o = some x.g ∧
          ((calloc P keep (csD (dsAt L p ++ ds) (looksOf all x.o)) x.o = some x.op ∧ x.k = 4) ∨ (cstep P keep (csD (dsAt L p ++ ds) (looksOf all x.o)) x.o = some x.op ∧ x.k = kindD x.op)) := by
      rintro y r hr rfl rfl hy rfl
      obtain ⟨h1, h2⟩ := compD_ok hr
      refine ⟨by simp [h1], fun p x hx => ?_⟩
      cases p with
      | zero => simp at hx; subst hx; simpa [dsAt] using hy
      | succ p =>
        simp at hx
        have := h2 p x hx
        rw [dsAt_cons, List.append_assoc]
        exact this
    split at h
    · rename_i g r hg hr
      split at h
      · rename_i op hop
        exact fin hr rfl rfl ⟨hg, .inl ⟨hop, rfl⟩⟩ (Option.some.inj h).symm
      · split at h
        · rename_i op hop
          exact fin hr rfl rfl ⟨hg, .inr ⟨hop, rfl⟩⟩ (Option.some.inj h).symm
        · cases h
    · cases h
theorem pairsOk_get {bf : List Nat} {all : List Oper} : ∀ {L : List DI}, pairsOk bf all L = true → ∀ (p q : Nat) (x y : DI), p < q → L[p]? = some x → L[q]? = some y → pairOk bf all x y = true
  | [], _, p, q, x, y, _, h, _ => by simp at h
  | z :: L, ha, p, q, x, y, hlt, hx, hy => by
    simp only [pairsOk, Bool.and_eq_true] at ha
    cases q with
    | zero => omega
    | succ q =>
      simp at hy
      cases p with
      | zero => simp at hx; subst hx; exact List.all_eq_true.1 ha.1 y (List.mem_of_getElem? hy)
      | succ p => simp at hx; exact pairsOk_get ha.2 p q x y (by omega) hx hy
theorem lastD_spec {s : Nat} : ∀ {ds : List (Option Nat)} {n j : Nat}, lastD s ds n = some j → n ≤ j ∧ ds[j - n]? = some (some s) ∧ ∀ i, i < j - n → ds[i]? ≠ some (some s)
  | [], n, j, h => by cases h
  | d :: l, n, j, h => by
    simp only [lastD] at h
    have next : lastD s l (n + 1) = some j → d ≠ some s → n ≤ j ∧ (d :: l)[j - n]? = some (some s) ∧ ∀ i, i < j - n → (d :: l)[i]? ≠ some (some s) := by
      intro h hne
      obtain ⟨h1, h2, h3⟩ := lastD_spec h
      refine ⟨by omega, ?_, ?_⟩
      · rw [show j - n = (j - (n + 1)) + 1 by omega]; simpa using h2
      · intro i hi
        cases i with
        | zero => simpa using hne
        | succ i => simpa using h3 i (by omega)
    split at h
    · rename_i a
      split at h
      · rename_i hb
        obtain rfl := Option.some.inj h
        refine ⟨Nat.le_refl _, ?_, fun i hi => by omega⟩
        rw [Nat.sub_self, Nat.eq_of_beq_eq_true hb]; rfl
      · rename_i hb
        exact next h (by intro e; injection e with e; exact Nat.ne_of_beq_eq_false hb e.symm)
    · exact next h (by simp)
theorem lastD_none {s : Nat} : ∀ {ds : List (Option Nat)} {n : Nat}, lastD s ds n = none → some s ∉ ds
  | [], n, h => by simp
  | d :: l, n, h => by
    simp only [lastD] at h
    have next : lastD s l (n + 1) = none → d ≠ some s → some s ∉ d :: l := by
      intro h hne
      simp only [List.mem_cons, not_or]
      exact ⟨fun e => hne e.symm, lastD_none h⟩
    split at h
    · rename_i a
      split at h
      · cases h
      · rename_i hb
        exact next h (by intro e; injection e with e; exact Nat.ne_of_beq_eq_false hb e.symm)
    · exact next h (by simp)
theorem dsAt_length {L : List DI} {p : Nat} (h : p ≤ L.length) : (dsAt L p).length = p := by simp [dsAt, h]
theorem dsAt_get {L : List DI} {p q : Nat} (h : p ≤ L.length) (hq : q < p) : (dsAt L p)[p - 1 - q]? = (L[q]?).map (·.o.dst) := by
  unfold dsAt
  rw [List.getElem?_reverse (by simp; omega)]
  simp only [List.length_map, List.length_take, Nat.min_eq_left h, List.getElem?_map, List.getElem?_take]
  rw [if_pos (by omega)]
  congr 2
  omega
theorem last_at {L : List DI} {p s j : Nat} (h : p ≤ L.length) (hl : lastD s (dsAt L p) 0 = some j) : ∃ q x, q < p ∧ j = p - 1 - q ∧ L[q]? = some x ∧ x.o.dst = some s ∧ ∀ r y, q < r → r < p → L[r]? = some y → y.o.dst ≠ some s := by
  obtain ⟨_, h1, h2⟩ := lastD_spec hl
  rw [Nat.sub_zero] at h1 h2
  have hjp : j < p := by
    have := (List.getElem?_eq_some_iff.1 h1).1
    rwa [dsAt_length h] at this
  have hq : p - 1 - (p - 1 - j) = j := by omega
  have h3 := dsAt_get (q := p - 1 - j) h (by omega)
  rw [hq, h1] at h3
  cases hx : L[p - 1 - j]? with
  | none => rw [hx] at h3; cases h3
  | some x =>
    rw [hx] at h3
    refine ⟨p - 1 - j, x, by omega, by omega, hx, (Option.some.inj h3).symm, fun r y hr hrp hy hd => ?_⟩
    have h4 := dsAt_get (q := r) h hrp
    rw [hy] at h4
    exact h2 (p - 1 - r) (by omega) (by rw [h4]; simp [hd])
theorem last_none {L : List DI} {p s : Nat} (h : p ≤ L.length) (hl : lastD s (dsAt L p) 0 = none) : ∀ q x, q < p → L[q]? = some x → x.o.dst ≠ some s := by
  intro q x hq hx hd
  refine lastD_none hl ?_
  have := dsAt_get (q := q) h hq
  rw [hx] at this
  exact List.mem_of_getElem? (this.trans (by simp [hd]))
theorem csD_look {ds : List (Option Nat)} {s : Nat} : ∀ {ls : List Nat}, s ∈ ls → lookS s (csD ds ls).m = (lastD s ds 0).map fun j => SO.a (ds.length - 1 - j)
  | [], h => by cases h
  | a :: l, h => by
    have ih : s ∈ l → lookS s (csD ds l).m = (lastD s ds 0).map fun j => SO.a (ds.length - 1 - j) := csD_look
    simp only [csD] at ih ⊢
    rw [List.filterMap_cons]
    rcases Nat.decEq s a with hne | rfl
    · have hs : s ∈ l := by simpa [hne] using h
      have hb : Nat.beq s a = false := by
        cases hq : Nat.beq s a with
        | false => rfl
        | true => exact absurd (Nat.eq_of_beq_eq_true hq) hne
      cases lastD a ds 0 with
      | none => exact ih hs
      | some j => simp only [Option.map_some, lookS, hb]; exact ih hs
    · cases hj : lastD s ds 0 with
      | none =>
        simp only [Option.map_none]
        by_cases hs : s ∈ l
        · rw [ih hs, hj]; rfl
        · have : ∀ (l : List Nat), s ∉ l → lookS s (l.filterMap fun s => (lastD s ds 0).map fun j => (s, SO.a (ds.length - 1 - j))) = none := by
            intro l
            induction l with
            | nil => intro _; rfl
            | cons b l ih =>
              intro hn
              simp only [List.mem_cons, not_or] at hn
              rw [List.filterMap_cons]
              have hb : Nat.beq s b = false := by
                cases hq : Nat.beq s b with
                | false => rfl
                | true => exact absurd (Nat.eq_of_beq_eq_true hq) hn.1
              cases lastD b ds 0 with
              | none => exact ih hn.2
              | some j => simp only [Option.map_some, lookS, hb]; exact ih hn.2
          exact this l hs
      | some j =>
        simp only [Option.map_some, lookS]
        have : Nat.beq s s = true := Nat.beq_refl s
        rw [this]
theorem csD_look_none {ds : List (Option Nat)} {s : Nat} {ls : List Nat} (h : s ∉ ls) : lookS s (csD ds ls).m = none := by
  simp only [csD]
  induction ls with
  | nil => rfl
  | cons b l ih =>
    simp only [List.mem_cons, not_or] at h
    rw [List.filterMap_cons]
    have hb : Nat.beq s b = false := by
      cases hq : Nat.beq s b with
      | false => rfl
      | true => exact absurd (Nat.eq_of_beq_eq_true hq) h.1
    cases lastD b ds 0 with
    | none => exact ih h.2
    | some j => simp only [Option.map_some, lookS, hb]; exact ih h.2
theorem denDs_get : ∀ {l : List (AOper × Bool)} {r : List DS}, denDs l = some r → r.length = l.length ∧ ∀ (p : Nat) (o : AOper) (fl : Bool), l[p]? = some (o, fl) → ∃ s, o.op.denD fl = some s ∧ r[p]? = some (s, denG o.g)
  | [], r, h => by obtain rfl := Option.some.inj h; exact ⟨rfl, fun p o fl h => by simp at h⟩
  | (o, fl) :: l, r, h => by
    simp only [denDs] at h
    split at h
    · rename_i s hs
      split at h
      · rename_i r' hr
        obtain rfl := Option.some.inj h
        obtain ⟨h1, h2⟩ := denDs_get hr
        refine ⟨by simp [h1], fun p o' fl' hp => ?_⟩
        cases p with
        | zero => simp at hp; obtain ⟨rfl, rfl⟩ := hp; exact ⟨s, hs, rfl⟩
        | succ p => simp at hp; simpa using h2 p o' fl' hp
      · cases h
    · cases h
end
end Go.Ai

namespace Go.Ai
open Go

section
variable {S : Stat} {keep : List Nat} {c : CS}
theorem cspec_not {P : Program} {o : Oper} {op : AOp} (h : cspec P keep c o = some op) : op.denV = none ∧ op.denH = none := by
  unfold cspec at h
  split at h
  · rename_i it b hop
    cases b with
    | true => cases h
    | false =>
      cases hx : copd P keep c it with
      | none => rw [hx] at h; cases h
      | some x => rw [hx] at h; obtain rfl := Option.some.inj h; exact ⟨rfl, rfl⟩
  · split at h
    · obtain rfl := Option.some.inj h; exact ⟨rfl, rfl⟩
    · cases h
    · split at h
      · obtain rfl := Option.some.inj h; exact ⟨rfl, rfl⟩
      · cases h
  · split at h
    · split at h
      · obtain rfl := Option.some.inj h; exact ⟨rfl, rfl⟩
      · cases h
    · cases h
  · rename_i X hop
    cases hx : copd P keep c X with
    | none => rw [hx] at h; cases h
    | some x => rw [hx] at h; obtain rfl := Option.some.inj h; exact ⟨rfl, rfl⟩
  · cases h
theorem cstep_cop {P : Program} {o : Oper} {op : AOp} (h : cstep P keep c o = some op) (hv : op.denV.isSome = true ∨ op.denH.isSome = true) : cop P keep c o = some op := by
  unfold cstep at h
  split at h
  · rename_i op' hsp
    obtain rfl := Option.some.inj h
    obtain ⟨h1, h2⟩ := cspec_not hsp
    rw [h1, h2] at hv
    rcases hv with hv | hv <;> cases hv
  · split at h
    · rename_i op' hc
      split at h
      · obtain rfl := Option.some.inj h; exact hc
      · cases h
    · cases h
theorem cstep_call {P : Program} {o : Oper} {q : ACallee} {args : List AOpd} (h : cstep P keep c o = some (.call q args)) : ∃ cl, o.op = .call cl ∧ ccallee P keep c cl.callee = some q ∧ copds P keep c cl.args.toList = some args := by
  unfold cstep at h
  split at h
  · rename_i op' hsp
    obtain rfl := Option.some.inj h
    unfold cspec at hsp
    split at hsp
    · rename_i it b hop
      cases b with
      | true => cases hsp
      | false =>
        cases hx : copd P keep c it with
        | none => rw [hx] at hsp; cases hsp
        | some x => rw [hx] at hsp; cases hsp
    · rename_i f hop
      split at hsp
      · cases hsp
      · cases hsp
      · split at hsp
        · rename_i args' q' ha hq
          injection hsp with hsp; injection hsp with h1 h2
          subst h1 h2
          exact ⟨f, hop, hq, ha⟩
        · cases hsp
    · split at hsp
      · split at hsp
        · cases hsp
        · cases hsp
      · cases hsp
    · rename_i X hop
      cases hx : copd P keep c X with
      | none => rw [hx] at hsp; cases hsp
      | some x => rw [hx] at hsp; cases hsp
    · cases hsp
  · split at h
    · rename_i op' hc
      split at h
      · rename_i hv
        obtain rfl := Option.some.inj h
        cases hv
      · cases h
    · cases h
theorem cop_not_select {P : Program} {o : Oper} {op : AOp} (h : cop P keep c o = some op) (cs : Array SelectCase) (b : Bool) : o.op ≠ .select cs b := by
  intro ho
  unfold cop at h
  rw [ho] at h
  cases h
end

def evS (all : List Oper) (o : Oper) (a a0 : Act) : Operand → Value
  | .tmp s => if s ∈ looksOf all o then a.eval (.tmp s) else a0.eval (.tmp s)
  | X => a.eval X
theorem evS_eq {all : List Oper} {o : Oper} {a a0 : Act} (hs : ∀ cs b, o.op ≠ .select cs b) : execOp (evS all o a a0) o = execOp a.eval o := by
  refine execOp_congr o hs fun X hX => ?_
  cases X with
  | tmp s =>
    simp only [evS]
    rw [if_pos]
    unfold looksOf tmpsOf
    refine List.mem_append_left _ (List.mem_filterMap.2 ⟨.tmp s, by simpa using hX, rfl⟩)
  | _ => rfl

def addD (D : Nat → Bool) (i : Nat) : Nat → Bool := fun j => if j = i then true else D j
theorem addD_self (D : Nat → Bool) (i : Nat) : addD D i i = true := by simp [addD]
theorem addD_ne {D : Nat → Bool} {i j : Nat} (h : j ≠ i) : addD D i j = D j := by simp [addD, h]
theorem addD_le {D : Nat → Bool} {i j : Nat} (h : D j = true) : addD D i j = true := by unfold addD; split <;> simp [h]
theorem addD_false {D : Nat → Bool} {i j : Nat} (h : addD D i j = false) : j ≠ i ∧ D j = false := by
  unfold addD at h
  split at h
  · cases h
  · rename_i h'; exact ⟨h', h⟩

structure DD (S : Stat) (keep : List Nat) (nt : Nat) (ops : List Oper) (L : List DI) (LD : List DS) : Prop where
  dst : dstOk nt ops = true
  src : ∀ (p : Nat) (x : DI), L[p]? = some x → ops[x.i]? = some x.o
  cov : ∀ i, i < ops.length → ∃ (p : Nat) (x : DI), L[p]? = some x ∧ x.i = i
  aft : aftOk ops 0 = true
  pair : ∀ (p q : Nat) (x y : DI), p < q → L[p]? = some x → L[q]? = some y → pairOk (befs ops []) ops x y = true
  comp : ∀ (p : Nat) (x : DI), L[p]? = some x → guardOf S.P keep ops (csD (dsAt L p) (looksOf ops x.o)) x.o = some x.g ∧
    ((calloc S.P keep (csD (dsAt L p) (looksOf ops x.o)) x.o = some x.op ∧ (x.k = 4 ∨ x.k = 2)) ∨ (cstep S.P keep (csD (dsAt L p) (looksOf ops x.o)) x.o = some x.op ∧ x.k = kindD x.op ∧ x.k ≠ 3))
  den : ∀ (p : Nat) (x : DI), L[p]? = some x → ∃ s, x.op.denD (x.k == 4) = some s ∧ LD[p]? = some (s, denG x.g)
  len : LD.length = L.length

section
variable {S : Stat} {keep : List Nat} {nt : Nat} {ops : List Oper} {L : List DI} {LD : List DS}

theorem DD.lt (d : DD S keep nt ops L LD) {p : Nat} {x : DI} (hx : L[p]? = some x) : p < L.length := (List.getElem?_eq_some_iff.1 hx).1
theorem memK_01 (op : AOp) : memK op = 0 ∨ memK op = 1 := by
  unfold memK
  split
  all_goals first | exact .inl rfl | exact .inr rfl | (split <;> first | exact .inl rfl | exact .inr rfl)
inductive Knd (S : Stat) (keep : List Nat) (c : CS) (x : DI) : DStep → Prop
  | v (f : VOp) : cop S.P keep c x.o = some x.op → x.op.denV = some f → (x.k = 0 ∨ x.k = 1) → (x.k = 0 → memK x.op = 0) → Knd S keep c x (.v f)
  | h (f : HOp) : (calloc S.P keep c x.o = some x.op ∨ cop S.P keep c x.o = some x.op) → x.op.denH = some f → x.k = 2 → Knd S keep c x (.h f)
  | c (cl : Call) (q : ACallee) (args : List AOpd) : x.o.op = .call cl → ccallee S.P keep c cl.callee = some q → copds S.P keep c cl.args.toList = some args → x.k = 2 → Knd S keep c x (.c q.den (denL args))
  | f (f : HOp) : calloc S.P keep c x.o = some x.op → x.op.denH = some f → x.k = 4 → Knd S keep c x (.f f)
theorem DD.knd (d : DD S keep nt ops L LD) {p : Nat} {x : DI} (hx : L[p]? = some x) : ∃ s, LD[p]? = some (s, denG x.g) ∧ Knd S keep (csD (dsAt L p) (looksOf ops x.o)) x s := by
  obtain ⟨s, hs, hld⟩ := d.den p x hx
  refine ⟨s, hld, ?_⟩
  obtain ⟨_, hc⟩ := d.comp p x hx
  unfold AOp.denD at hs
  rcases hc with ⟨hc, hk⟩ | ⟨hc, hk, hk3⟩
  · obtain ⟨f, h1, h2, _⟩ := calloc_ok (S := S) hc
    rw [h1, h2] at hs
    simp only at hs
    rcases hk with hk | hk
    · rw [hk] at hs
      obtain rfl := Option.some.inj hs
      exact .f f hc h2 hk
    · rw [hk] at hs
      obtain rfl := Option.some.inj hs
      exact .h f (.inl hc) h2 hk
  · unfold kindD at hk
    cases hV : x.op.denV with
    | some f =>
      rw [hV] at hk hs
      simp only at hk hs
      have hm := memK_01 x.op
      have hk4 : (x.k == 4) = false := by rcases hm with h | h <;> rw [hk, h] <;> rfl
      rw [hk4] at hs
      obtain rfl := Option.some.inj hs
      exact .v f (cstep_cop hc (.inl (by rw [hV]; rfl))) hV (by rw [hk]; exact hm) (fun h => by rw [← hk]; exact h)
    | none =>
      rw [hV] at hk hs
      simp only at hk hs
      cases hH : x.op.denH with
      | some f =>
        rw [hH] at hk hs
        simp only at hk hs
        have hk4 : (x.k == 4) = false := by rw [hk]; rfl
        rw [hk4] at hs
        obtain rfl := Option.some.inj hs
        exact .h f (.inr (cstep_cop hc (.inr (by rw [hH]; rfl)))) hH hk
      | none =>
        rw [hH] at hk hs
        simp only at hk hs
        split at hs
        · rename_i q args hop
          rw [hop] at hk hc
          simp only at hk
          have hk4 : (x.k == 4) = false := by rw [hk]; rfl
          rw [hk4] at hs
          obtain rfl := Option.some.inj hs
          obtain ⟨cl, h1, h2, h3⟩ := cstep_call hc
          exact .c cl q args h1 h2 h3 hk
        · cases hs
theorem Knd.not_select {c : CS} {x : DI} {s : DStep} (h : Knd S keep c x s) (cs : Array SelectCase) (b : Bool) : x.o.op ≠ .select cs b := by
  have hcal : calloc S.P keep c x.o = some x.op → x.o.op ≠ .select cs b := by
    intro h ho
    unfold calloc at h
    rw [ho] at h
    cases h
  cases h with
  | v f hc => exact cop_not_select hc cs b
  | h f hc =>
    rcases hc with hc | hc
    · exact hcal hc
    · exact cop_not_select hc cs b
  | c cl q args ho => rw [ho]; intro h; cases h
  | f f hc => exact hcal hc
theorem Knd.not_defer {c : CS} {x : DI} {s : DStep} (h : Knd S keep c x s) (cl : Call) : x.o.op ≠ .defer cl := by
  have hcal : calloc S.P keep c x.o = some x.op → x.o.op ≠ .defer cl := by
    intro h ho
    unfold calloc at h
    rw [ho] at h
    cases h
  have hcop : cop S.P keep c x.o = some x.op → x.op.denV.isSome = true ∨ x.op.denH.isSome = true → x.o.op ≠ .defer cl := by
    intro h hv ho
    unfold cop at h
    rw [ho] at h
    simp only at h
    split at h
    · simp only [Option.bind_eq_bind, Option.bind_eq_some_iff] at h
      obtain ⟨y, hy, z, hz, h⟩ := h
      rw [← Option.some.inj h] at hv
      rcases hv with hv | hv <;> cases hv
    · cases h
  cases h with
  | v f hc hV => exact hcop hc (.inl (by rw [hV]; rfl))
  | h f hc hH =>
    rcases hc with hc | hc
    · exact hcal hc
    · exact hcop hc (.inr (by rw [hH]; rfl))
  | c cl' q args ho => rw [ho]; intro h; cases h
  | f f hc => exact hcal hc
theorem Knd.isF {c : CS} {x : DI} {s : DStep} (h : Knd S keep c x s) : Go.Ai.isF s = (x.k == 4) := by
  cases h with
  | v f _ _ hk => rcases hk with h | h <;> rw [h] <;> rfl
  | h f _ _ hk => rw [hk]; rfl
  | c _ _ _ _ _ _ hk => rw [hk]; rfl
  | f f _ _ hk => rw [hk]; rfl

theorem DD.inj (d : DD S keep nt ops L LD) {p q : Nat} {x y : DI} (hx : L[p]? = some x) (hy : L[q]? = some y) (h : x.i = y.i) : p = q := by
  rcases Nat.lt_trichotomy p q with hlt | heq | hlt
  · have := d.pair p q x y hlt hx hy
    simp [pairOk, h] at this
  · exact heq
  · have := d.pair q p y x hlt hy hx
    simp [pairOk, h] at this
theorem apart_l {all : List Oper} {x y : Oper} (h : apartD all x y = true) {s : Nat} (hd : x.dst = some s) : s ∉ looksOf all y ∧ y.dst ≠ some s := by
  unfold apartD at h
  rw [hd] at h
  simp only [Bool.and_eq_true, Bool.not_eq_true', bne_iff_ne] at h
  refine ⟨fun hm => ?_, h.1.2⟩
  have := h.1.1
  simp [hm] at this
theorem apart_r {all : List Oper} {x y : Oper} (h : apartD all x y = true) {s : Nat} (hd : y.dst = some s) : s ∉ looksOf all x := by
  unfold apartD at h
  simp only [Bool.and_eq_true] at h
  have h2 := h.2
  rw [hd] at h2
  intro hm
  simp [hm] at h2
theorem DD.two (d : DD S keep nt ops L LD) {p q : Nat} {x y : DI} (hlt : p < q) (hx : L[p]? = some x) (hy : L[q]? = some y) :
    ordB (befs ops []) y.i x.i = false ∧ (ordB (befs ops []) x.i y.i = true ∨ (¬ (x.k = 2 ∧ y.k = 2) ∧ ¬ (x.k = 4 ∧ y.k = 2) ∧ apartD ops x.o y.o = true)) := by
  have := d.pair p q x y hlt hx hy
  unfold pairOk at this
  simp only [Bool.and_eq_true, Bool.or_eq_true, Bool.not_eq_true', bne_iff_ne] at this
  refine ⟨this.1.2, ?_⟩
  rcases this.2 with h | h
  · exact .inl h
  · refine .inr ⟨?_, ?_, h.2⟩
    · rintro ⟨h1, h2⟩; simp [h1, h2] at h
    · rintro ⟨h1, h2⟩; simp [h1, h2] at h

structure Closed (ops : List Oper) (D : Nat → Bool) : Prop where
  c : ∀ j o, ops[j]? = some o → D j = true → ∀ e ∈ o.after.toList, Region.binds .any e = true → D e.on = true
structure Ready (ops : List Oper) (D : Nat → Bool) (i : Nat) (o : Oper) : Prop where
  get : ops[i]? = some o
  out : D i = false
  aft : ∀ e ∈ o.after.toList, Region.binds .any e = true → D e.on = true
theorem Closed.ord {D : Nat → Bool} (h : Closed ops D) {i j : Nat} {o : Oper} (hj : ops[j]? = some o) (hD : D j = true) (ho : ordB (befs ops []) i j = true) : D i = true :=
  ord_closed (D := fun i => D i = true) (fun j o h1 h2 => h.c j o h1 h2) j o hj (h.c j o hj hD) i ho
theorem Ready.ord {D : Nat → Bool} (h : Closed ops D) {i j : Nat} {o : Oper} (hr : Ready ops D j o) (ho : ordB (befs ops []) i j = true) : D i = true :=
  ord_closed (D := fun i => D i = true) (fun j o h1 h2 => h.c j o h1 h2) j o hr.get hr.aft i ho
theorem Closed.add {D : Nat → Bool} (h : Closed ops D) {i : Nat} {o : Oper} (hr : Ready ops D i o) : Closed ops (addD D i) := by
  refine ⟨fun j o' hj hD e he hb => addD_le ?_⟩
  by_cases hji : j = i
  · subst hji
    rw [hr.get] at hj
    obtain rfl := Option.some.inj hj
    exact hr.aft e he hb
  · rw [addD_ne hji] at hD
    exact h.c j o' hj hD e he hb
end
end Go.Ai

namespace Go.Ai
open Go

structure DC where
  S : Stat
  keep : List Nat
  nt : Nat
  ops : List Oper
  L : List DI
  LD : List DS
  rc : Rc
  tm : TM
  nf : Nat
  v : Nat → AVal
  hh : Nat → H
  evs : List DEv
  ρ0 : Rho
  h0 : H
  w0 : World
  a0 : Act
def DC.rid (C : DC) (p : Nat) : Nat := C.h0.nx + kF C.LD p
structure DRun (C : DC) : Prop where
  d : DD C.S C.keep C.nt C.ops C.L C.LD
  hS : SOk C.S
  hrc : RcOk C.S C.rc
  run : Run C.rc C.tm C.LD C.h0.nx C.nf C.v C.hh C.evs
  nf : C.nf = kF C.LD C.L.length
  h00 : C.hh 0 = ⟨C.h0.o, C.h0.nx + C.nf⟩
  tmr : TMR C.ρ0 C.a0.tmps C.keep C.tm
  sz : C.a0.tmps.size = C.nt
  chk : ∀ (p q : Nat) (x y : DI), C.L[p]? = some x → C.L[q]? = some y → x.k = 1 → y.k = 2 → ordB (befs C.ops []) x.i y.i = false → ordB (befs C.ops []) y.i x.i = false →
    (evAt C.tm C.LD C.v C.hh p).rd (C.hh q) = some (C.v p) ∧ (evAt C.tm C.LD C.v C.hh p).rd (C.hh (q + 1)) = some (C.v p)
def DC.early (C : DC) (t p : Nat) (ρ : Rho) (w : World) : Prop :=
  ∃ pl o y, ρ (C.rid p) = some pl ∧ w.heap[pl.blk]? = some o ∧ ObjR C.S ρ y pl o ∧ C.hh (p + 1) = (C.hh p).put (C.rid p) y ∧ ¬ Liv ρ (C.hh t) pl.blk ∧ C.w0.heap.size ≤ pl.blk
structure DPre (C : DC) (D : Nat → Bool) (t : Nat) (ρ : Rho) (a : Act) (w : World) : Prop where
  tle : t ≤ C.L.length
  tA : ∀ (p : Nat) (x : DI), t ≤ p → C.L[p]? = some x → x.k = 2 → D x.i = false
  tB : ∀ (p : Nat) (x : DI), p < t → C.L[p]? = some x → x.k = 2 → D x.i = true
  cl : Closed C.ops D
  hr : HR C.S ρ (C.hh t) w
  gl : GlR C.S ρ
  ext : Ext C.ρ0 C.h0 C.w0 ρ (C.hh t) w
  nx : C.h0.nx + C.nf ≤ (C.hh t).nx
  sz : a.tmps.size = C.nt
  dfr : a.defers = C.a0.defers
  last : ∀ (s p : Nat) (x : DI), C.L[p]? = some x → D x.i = true → x.o.dst = some s → (∀ (q : Nat) (y : DI), p < q → C.L[q]? = some y → y.o.dst = some s → D y.i = false) → VRel ρ (C.v p) (a.tmps.getD s undef)
  non : ∀ s, (∀ (p : Nat) (x : DI), C.L[p]? = some x → x.o.dst = some s → D x.i = false) → a.tmps.getD s undef = C.a0.tmps.getD s undef
  fN : ∀ (p : Nat) (x : DI), C.L[p]? = some x → x.k = 4 → D x.i = false → ρ (C.rid p) = none
  fE : ∀ (p : Nat) (x : DI), t ≤ p → C.L[p]? = some x → x.k = 4 → D x.i = true → (C.hh (p + 1) = C.hh p ∧ ρ (C.rid p) = none) ∨ C.early t p ρ w
  fD : ∀ (p q : Nat) (x y : DI) (pl pl' : Place), p ≠ q → t ≤ p → t ≤ q → C.L[p]? = some x → C.L[q]? = some y → x.k = 4 → y.k = 4 → ρ (C.rid p) = some pl → ρ (C.rid q) = some pl' → pl.blk ≠ pl'.blk
def DInv (C : DC) (D : Nat → Bool) (t : Nat) (ρ : Rho) (a : Act) (w : World) : Prop := DPre C D t ρ a w ∧ (t < C.L.length → ∃ x, C.L[t]? = some x ∧ x.k = 2)

section
variable {C : DC} {D : Nat → Bool} {t : Nat} {ρ : Rho} {a : Act} {w : World}

theorem DRun.st (R : DRun C) {p : Nat} {x : DI} (hx : C.L[p]? = some x) : ∃ s, C.LD[p]? = some (s, denG x.g) ∧ Knd C.S C.keep (csD (dsAt C.L p) (looksOf C.ops x.o)) x s ∧ chkM (C.hh p) (C.rid p) (C.nf - kF C.LD p) s = true ∧
    ((wantD C.tm (envOf C.v p) (denG x.g) = some false ∧ C.v p = .tup [] ∧ C.hh (p + 1) = C.hh p) ∨
     (wantD C.tm (envOf C.v p) (denG x.g) = some true ∧ stepD C.rc C.tm (envOf C.v p) (C.hh p) (C.rid p) s = some (C.v p, C.hh (p + 1)))) := by
  obtain ⟨s, hs, hk⟩ := R.d.knd hx
  exact ⟨s, hs, hk, R.run.at_ p _ hs⟩
theorem DRun.kF_lt (R : DRun C) {p q : Nat} {x : DI} (hx : C.L[p]? = some x) (hk : x.k = 4) (h : p < q) : kF C.LD p < kF C.LD q := by
  obtain ⟨s, hs, hkn⟩ := R.d.knd hx
  refine Go.Ai.kF_lt hs ?_ h
  rw [hkn.isF, hk]; rfl
theorem DRun.rid_lt (R : DRun C) {p : Nat} {x : DI} (hx : C.L[p]? = some x) (hk : x.k = 4) : C.rid p < C.h0.nx + C.nf := by
  have := R.kF_lt hx hk (R.d.lt hx)
  unfold DC.rid
  rw [R.nf]; omega
theorem DRun.rid_ne (R : DRun C) {p q : Nat} {x y : DI} (hx : C.L[p]? = some x) (hk : x.k = 4) (hy : C.L[q]? = some y) (hk' : y.k = 4) (h : p ≠ q) : C.rid p ≠ C.rid q := by
  unfold DC.rid
  rcases Nat.lt_or_gt_of_ne h with h | h
  · have := R.kF_lt hx hk h; omega
  · have := R.kF_lt hy hk' h; omega
theorem DRun.still (R : DRun C) {p : Nat} {x : DI} (hx : C.L[p]? = some x) (hk : x.k ≠ 2) : C.hh (p + 1) = C.hh p ∨ (x.k = 4 ∧ ∃ y, (C.hh p).get (C.rid p) = none ∧ C.hh (p + 1) = (C.hh p).put (C.rid p) y) := by
  obtain ⟨s, hs, hkn, hc, hst⟩ := R.st hx
  rcases hst with ⟨_, _, h⟩ | ⟨_, h⟩
  · exact .inl h
  · cases hkn with
    | v f =>
      simp only [stepD] at h
      split at h
      · injection h with h; injection h with _ h; exact .inl h.symm
      · cases h
    | h f _ _ h2 => exact absurd h2 hk
    | c _ _ _ _ _ _ h2 => exact absurd h2 hk
    | f f _ _ h4 =>
      simp only [stepD] at h
      split at h
      · split at h
        · rename_i y _
          split at h
          · rename_i hn
            injection h with h; injection h with _ h
            exact .inr ⟨h4, y, hn, h.symm⟩
          · cases h
        · cases h
      · cases h
theorem early_mono {t' : Nat} {p : Nat} {ρ' : Rho} {w' : World} (h : C.early t p ρ w) (hl : ρ.le ρ') (hh : ∀ cb, cb < w.heap.size → ¬ Liv ρ (C.hh t) cb → w'.heap[cb]? = w.heap[cb]? ∧ ¬ Liv ρ' (C.hh t') cb) : C.early t' p ρ' w' := by
  obtain ⟨pl, o, y, h1, h2, h3, h4, h5, h6⟩ := h
  obtain ⟨h7, h8⟩ := hh pl.blk (Array.getElem?_eq_some_iff.1 h2).1 h5
  exact ⟨pl, o, y, hl _ _ h1, by rw [h7]; exact h2, h3.mono hl, h4, h8, h6⟩

theorem DPre.tick (R : DRun C) (I : DPre C D t ρ a w) {x : DI} (hx : C.L[t]? = some x) (hk : x.k ≠ 2) : DPre C D (t + 1) ρ a w := by
  have hlt := R.d.lt hx
  have tA' : ∀ (p : Nat) (x : DI), t + 1 ≤ p → C.L[p]? = some x → x.k = 2 → D x.i = false := fun p y h => I.tA p y (by omega)
  have tB' : ∀ (p : Nat) (y : DI), p < t + 1 → C.L[p]? = some y → y.k = 2 → D y.i = true := by
    intro p y hp hy hk2
    rcases Nat.lt_or_ge p t with h | h
    · exact I.tB p y h hy hk2
    · obtain rfl : p = t := by omega
      rw [hx] at hy
      obtain rfl := Option.some.inj hy
      exact absurd hk2 hk
  have fD' : ∀ (p q : Nat) (x y : DI) (pl pl' : Place), p ≠ q → t + 1 ≤ p → t + 1 ≤ q → C.L[p]? = some x → C.L[q]? = some y → x.k = 4 → y.k = 4 → ρ (C.rid p) = some pl → ρ (C.rid q) = some pl' → pl.blk ≠ pl'.blk :=
    fun p q x y pl pl' h1 h2 h3 => I.fD p q x y pl pl' h1 (by omega) (by omega)
  have same : C.hh (t + 1) = C.hh t → DPre C D (t + 1) ρ a w := by
    intro he
    refine ⟨hlt, tA', tB', I.cl, by rw [he]; exact I.hr, I.gl, by rw [he]; exact I.ext, by rw [he]; exact I.nx, I.sz, I.dfr, I.last, I.non, I.fN, ?_, fD'⟩
    intro p y hp hy hk4 hD
    rcases I.fE p y (by omega) hy hk4 hD with h | h
    · exact .inl h
    · exact .inr (early_mono h (Rho.le_refl _) fun cb _ hn => ⟨rfl, by rw [he]; exact hn⟩)
  rcases R.still hx hk with he | ⟨hk4, y, hn, he⟩
  · exact same he
  · have hrl := R.rid_lt hx hk4
    have hnx := I.nx
    cases hD : D x.i with
    | false =>
      have hρ := I.fN t x hx hk4 hD
      obtain ⟨r1, x1⟩ := I.hr.putNone y hρ (by omega)
      refine ⟨hlt, tA', tB', I.cl, by rw [he]; exact r1, I.gl, by rw [he]; exact I.ext.trans x1, by rw [he]; exact I.nx, I.sz, I.dfr, I.last, I.non, I.fN, ?_, fD'⟩
      intro p z hp hz hk4' hD'
      rcases I.fE p z (by omega) hz hk4' hD' with h | h
      · exact .inl h
      · refine .inr (early_mono h (Rho.le_refl _) fun cb hlt hn => ⟨rfl, ?_⟩)
        rw [he]
        intro hl
        rcases x1.liv cb hl with h1 | h1
        · exact hn h1
        · omega
    | true =>
      rcases I.fE t x (Nat.le_refl _) hx hk4 hD with ⟨h1, _⟩ | ⟨pl, o, z, h1, h2, h3, h4, h5, h6⟩
      · exact same h1
      · have r1 := I.hr.install h1 h2 h3 h5
        have x1 := I.ext.install z h1 h6
        rw [← h4] at r1 x1
        refine ⟨hlt, tA', tB', I.cl, r1, I.gl, x1, by rw [he]; exact I.nx, I.sz, I.dfr, I.last, I.non, I.fN, ?_, fD'⟩
        intro p z' hp hz hk4' hD'
        rcases I.fE p z' (by omega) hz hk4' hD' with h | h
        · exact .inl h
        · obtain ⟨pl', o', y', g1, g2, g3, g4, g5, g6⟩ := h
          refine .inr ⟨pl', o', y', g1, g2, g3, g4, ?_, g6⟩
          rw [h4]
          rintro ⟨b, pb, zb, k1, k2, k3⟩
          rw [get_put] at k2
          split at k2
          · rename_i e; subst e
            obtain rfl : pl = pb := Option.some.inj (h1.symm.trans k1)
            exact I.fD t p x z' pl pl' (by omega) (Nat.le_refl _) (by omega) hx hz hk4 hk4' h1 g1 k3
          · exact g5 ⟨b, pb, zb, k1, k2, k3⟩
theorem DPre.inv (R : DRun C) : ∀ (m : Nat) {t : Nat}, C.L.length - t = m → DPre C D t ρ a w → ∃ t', t ≤ t' ∧ DInv C D t' ρ a w
  | 0, t, hm, I => ⟨t, Nat.le_refl _, I, fun h => by omega⟩
  | m + 1, t, hm, I => by
    have hlt : t < C.L.length := by omega
    have hx : C.L[t]? = some (C.L[t]'hlt) := List.getElem?_eq_getElem hlt
    by_cases hk : (C.L[t]'hlt).k = 2
    · exact ⟨t, Nat.le_refl _, I, fun _ => ⟨_, hx, hk⟩⟩
    · obtain ⟨t', h1, h2⟩ := DPre.inv R m (t := t + 1) (by omega) (I.tick R hx hk)
      exact ⟨t', by omega, h2⟩
theorem DPre.undo (R : DRun C) (I : DPre C D t ρ a w) : ∀ (m : Nat) {u : Nat}, t - u = m → u ≤ t → (∀ (q : Nat) (y : DI), u ≤ q → q < t → C.L[q]? = some y → y.k ≠ 2) → HR C.S ρ (C.hh u) w
  | 0, u, hm, hle, _ => by
    obtain rfl : u = t := by omega
    exact I.hr
  | m + 1, u, hm, hle, hno => by
    have hlt : u < C.L.length := by have := I.tle; omega
    have hx : C.L[u]? = some (C.L[u]'hlt) := List.getElem?_eq_getElem hlt
    have ih := DPre.undo R I m (u := u + 1) (by omega) (by omega) (fun q y h1 h2 => hno q y (by omega) h2)
    rcases R.still hx (hno u _ (Nat.le_refl _) (by omega) hx) with he | ⟨_, y, hn, he⟩
    · rw [← he]; exact ih
    · rw [he] at ih
      exact ih.undo hn
end
end Go.Ai

namespace Go.Ai
open Go

section
variable {C : DC} {D : Nat → Bool} {t : Nat} {ρ ρ' : Rho} {a : Act} {w w' : World} {p : Nat} {x : DI}

theorem DPre.lastN (R : DRun C) (I : DPre C D t ρ a w) (hx : C.L[p]? = some x) (hr : Ready C.ops D x.i x.o) (hl : ρ.le ρ') {a1 : Act} (hta : a1.tmps = a.tmps) {v' : Value} (hv : VRel ρ' (C.v p) v') :
    (∀ (s q : Nat) (y : DI), C.L[q]? = some y → addD D x.i y.i = true → y.o.dst = some s → (∀ (r : Nat) (z : DI), q < r → C.L[r]? = some z → z.o.dst = some s → addD D x.i z.i = false) → VRel ρ' (C.v q) ((a1.put x.o.dst v').tmps.getD s undef)) ∧
    (∀ s, (∀ (q : Nat) (y : DI), C.L[q]? = some y → y.o.dst = some s → addD D x.i y.i = false) → (a1.put x.o.dst v').tmps.getD s undef = C.a0.tmps.getD s undef) ∧
    (a1.put x.o.dst v').tmps.size = C.nt := by
  have hput : ∀ s, x.o.dst ≠ some s → (a1.put x.o.dst v').tmps.getD s undef = a.tmps.getD s undef := by
    intro s hs
    cases hd : x.o.dst with
    | none => simp [Act.put, hta]
    | some s' =>
      rw [hd] at hs
      simp only [Act.put, hta]
      exact getD_set_ne (fun e => hs (by rw [e]))
  have hself : ∀ s, x.o.dst = some s → (a1.put x.o.dst v').tmps.getD s undef = v' := by
    intro s hs
    rw [hs]
    simp only [Act.put, hta]
    refine getD_set_self ?_
    rw [I.sz]
    exact dstOk_get R.d.dst hr.get hs
  refine ⟨?_, ?_, ?_⟩
  · intro s q y hy hD hs hlater
    by_cases hi : y.i = x.i
    · obtain rfl := R.d.inj hy hx hi
      rw [hx] at hy
      obtain rfl := Option.some.inj hy
      rw [hself s hs]; exact hv
    · rw [addD_ne hi] at hD
      by_cases hxs : x.o.dst = some s
      · exfalso
        rcases Nat.lt_trichotomy p q with h | h | h
        · -- x comes ahead of y
          obtain ⟨_, h2⟩ := R.d.two h hx hy
          rcases h2 with h2 | ⟨_, _, h2⟩
          · have := I.cl.ord (R.d.src q y hy) hD h2
            rw [hr.out] at this; cases this
          · exact (apart_l h2 hxs).2 hs
        · subst h
          rw [hx] at hy
          obtain rfl := Option.some.inj hy
          exact hi rfl
        · have := hlater p x h hx hxs
          rw [addD_self] at this; cases this
      · rw [hput s hxs]
        refine (I.last s q y hy hD hs fun r z hr' hz hzs => (addD_false (hlater r z hr' hz hzs)).2).mono hl
  · intro s hno
    have hxs : x.o.dst ≠ some s := by
      intro hxs
      have := hno p x hx hxs
      rw [addD_self] at this; cases this
    rw [hput s hxs]
    exact I.non s fun q y hy hys => (addD_false (hno q y hy hys)).2
  · cases hd : x.o.dst with
    | none => simp [Act.put, hta, I.sz]
    | some s => simp [Act.put, hta, I.sz]

theorem DPre.so (R : DRun C) (I : DPre C D t ρ a w) (hx : C.L[p]? = some x) (hr : Ready C.ops D x.i x.o) : SoR C.S C.keep (csD (dsAt C.L p) (looksOf C.ops x.o)) ρ C.tm (envOf C.v p) (evS C.ops x.o a C.a0) := by
  have hple : p ≤ C.L.length := Nat.le_of_lt (R.d.lt hx)
  have hd : (csD (dsAt C.L p) (looksOf C.ops x.o)).d = p := dsAt_length hple
  have later : ∀ (s r : Nat) (z : DI), s ∈ looksOf C.ops x.o → p ≤ r → C.L[r]? = some z → z.o.dst = some s → D z.i = false := by
    intro s r z hs hpr hz hzs
    rcases Nat.lt_or_ge p r with h | h
    · obtain ⟨_, h2⟩ := R.d.two h hx hz
      rcases h2 with h2 | ⟨_, _, h2⟩
      · cases hD : D z.i with
        | false => rfl
        | true =>
          have := I.cl.ord (R.d.src r z hz) hD h2
          rw [hr.out] at this; cases this
      · exact absurd hs (apart_r h2 hzs)
    · obtain rfl : r = p := by omega
      rw [hx] at hz
      obtain rfl := Option.some.inj hz
      exact hr.out
  have keptV : ∀ (s i : Nat) (u : AVal), idxN s C.keep 0 = some i → (SO.opd p (.t i)).den C.tm (envOf C.v p) = some u → VRel ρ u (C.a0.tmps.getD s undef) := by
    intro s i u hi hu
    obtain ⟨v', h1, h2⟩ := R.tmr.get i s (idxN_zero hi)
    simp only [SO.opd, AOpd.den, xT, nth_eq] at hu
    rw [h1] at hu
    obtain rfl := Option.some.inj hu
    exact h2.2.mono I.ext.le
  intro X so hso u hu
  rw [hd] at hu
  cases X with
  | tmp s =>
    simp only [soOf] at hso
    by_cases hs : s ∈ looksOf C.ops x.o
    · simp only [evS, if_pos hs]
      rw [csD_look hs] at hso
      cases hj : lastD s (dsAt C.L p) 0 with
      | some j =>
        rw [hj] at hso
        simp only [Option.map_some] at hso
        obtain rfl := Option.some.inj hso
        obtain ⟨q, y, hqp, hjq, hy, hys, hno⟩ := last_at hple hj
        rw [dsAt_length hple] at hu
        have e1 : p - 1 - (p - 1 - j) = j := by omega
        simp only [SO.opd, AOpd.den, xL, nth_eq] at hu
        rw [show p - 1 - (p - 1 - j) = p - 1 - q by omega, envOf_get C.v hqp] at hu
        obtain rfl := Option.some.inj hu
        have hDy : D y.i = true := by
          obtain ⟨_, h2⟩ := R.d.two hqp hy hx
          rcases h2 with h2 | ⟨_, _, h2⟩
          · exact hr.ord I.cl h2
          · exact absurd hs (apart_l h2 hys).1
        refine I.last s q y hy hDy hys fun r z hqr hz hzs => ?_
        rcases Nat.lt_or_ge r p with h | h
        · exact absurd hzs (hno r z hqr h hz)
        · exact later s r z hs h hz hzs
      | none =>
        rw [hj] at hso
        simp only [Option.map_none] at hso
        cases hi : idxN s C.keep 0 with
        | none => rw [hi] at hso; cases hso
        | some i =>
          rw [hi] at hso
          obtain rfl := Option.some.inj hso
          have := I.non s fun q y hy hys => by
            rcases Nat.lt_or_ge q p with h | h
            · exact absurd hys (last_none hple hj q y h hy)
            · exact later s q y hs h hy hys
          show VRel ρ u (a.tmps.getD s undef)
          rw [this]
          exact keptV s i u hi hu
    · simp only [evS, if_neg hs]
      rw [csD_look_none hs] at hso
      simp only at hso
      cases hi : idxN s C.keep 0 with
      | none => rw [hi] at hso; cases hso
      | some i =>
        rw [hi] at hso
        obtain rfl := Option.some.inj hso
        exact keptV s i u hi hu
  | const cv =>
    simp only [soOf] at hso
    cases hc : cval cv with
    | none => rw [hc] at hso; cases hso
    | some u' =>
      rw [hc] at hso
      obtain rfl := Option.some.inj hso
      obtain rfl := Option.some.inj hu
      exact cval_rel hc
  | global g =>
    simp only [soOf] at hso
    split at hso
    · rename_i hlt
      obtain rfl := Option.some.inj hso
      obtain rfl := Option.some.inj hu
      obtain ⟨pl, h1, h2, h3⟩ := I.gl g (Nat.le_of_ble_eq_true hlt)
      have := VRel.ptr (ρ := ρ) g 0 pl h1
      rw [h2, h3] at this
      exact this
    · cases hso
  | func f =>
    simp only [soOf] at hso
    obtain rfl := Option.some.inj hso
    obtain rfl := Option.some.inj hu
    exact VRel.func _ _ [] [] [] [] (.func f) .nil .nil

theorem DPre.want (R : DRun C) (I : DPre C D t ρ a w) (hx : C.L[p]? = some x) (hr : Ready C.ops D x.i x.o) {bw : Bool} (hw : wantD C.tm (envOf C.v p) (denG x.g) = some bw) : Region.wanted x.o (yielded C.ops.toArray a.tmps) = bw := by
  obtain ⟨hg, _⟩ := R.d.comp p x hx
  unfold guardOf at hg
  split at hg
  · rename_i hgu
    have hg := Option.some.inj hg
    rw [← hg] at hw
    obtain rfl := Option.some.inj hw
    simp [Region.wanted, hgu]
  · rename_i j b hgu
    split at hg
    case h_2 => cases hg
    rename_i s hs
    cases hc : copd C.S.P C.keep (csD (dsAt C.L p) (looksOf C.ops x.o)) (.tmp s) with
    | none => rw [hc] at hg; cases hg
    | some gx =>
      rw [hc] at hg
      simp only [Option.map_some] at hg
      have hg := Option.some.inj hg
      rw [← hg] at hw
      have hs' : (C.ops.toArray[j]?).bind (·.dst) = some s := by rw [nth_eq] at hs; simpa using hs
      have hsl : s ∈ looksOf C.ops x.o := by
        refine List.mem_append_right _ ?_
        unfold guardS
        rw [hgu]
        simp only [hs]
        simp
      have hrel : ∀ u, gx.den C.tm (envOf C.v p) = some u → VRel ρ u (a.tmps.getD s undef) := by
        intro u hu
        have := copd_so (I.so R hx hr) hc u hu
        simp only [evS, if_pos hsl] at this
        exact this
      simp only [wantD, denG] at hw
      split at hw
      · rename_i cb hcb
        have h1 := (hrel _ hcb).bool_inv
        have h2 : a.tmps[s]? = some (.bool cb) := by
          simp only [Array.getD_eq_getD_getElem?] at h1
          cases hq : a.tmps[s]? with
          | none => rw [hq] at h1; simp [undef] at h1
          | some y => rw [hq] at h1; simp at h1; rw [h1]
        simp only [Region.wanted, hgu, yielded, hs', Option.bind_some, h2]
        split at hw
        · obtain rfl := Option.some.inj hw
          cases cb <;> rfl
        · obtain rfl := Option.some.inj hw
          cases cb <;> rfl
      · rename_i hcb
        obtain rfl := Option.some.inj hw
        have h1 : a.tmps.getD s undef = .tuple #[] := by
          have := hrel _ hcb
          generalize a.tmps.getD s undef = q at this
          cases this with
          | tup l l' h1 => cases h1; rfl
        have : ∀ y, a.tmps[s]? ≠ some (.bool y) := by
          intro y hq
          simp only [Array.getD_eq_getD_getElem?, hq] at h1
          simp at h1
        simp only [Region.wanted, hgu, yielded, hs', Option.bind_some]
        cases hq : a.tmps[s]? with
        | none => rfl
        | some y =>
          cases y <;> first | rfl | exact absurd hq (this _)
      · cases hw

theorem DInv.here (R : DRun C) (I : DInv C D t ρ a w) (hx : C.L[p]? = some x) (hr : Ready C.ops D x.i x.o) (hk : x.k = 2) : p = t := by
  obtain ⟨I, hM⟩ := I
  have hp := R.d.lt hx
  rcases Nat.lt_trichotomy p t with h | h | h
  · have := I.tB p x h hx hk
    rw [hr.out] at this; cases this
  · exact h
  · obtain ⟨y, hy, hyk⟩ := hM (by omega)
    obtain ⟨_, h2⟩ := R.d.two h hy hx
    rcases h2 with h2 | ⟨h2, _, _⟩
    · have := hr.ord I.cl h2
      rw [I.tA t y (Nat.le_refl _) hy hyk] at this; cases this
    · exact absurd ⟨hyk, hk⟩ h2
theorem DInv.mem (R : DRun C) (I : DInv C D t ρ a w) (hx : C.L[p]? = some x) (hr : Ready C.ops D x.i x.o) (hk : x.k = 0 ∨ x.k = 1) {f : VOp} (hf : f C.tm (envOf C.v p) (C.hh p) = some (C.v p)) (hpure : x.k = 0 → ∀ h h', f C.tm (envOf C.v p) h = f C.tm (envOf C.v p) h')
    (hrd : (evAt C.tm C.LD C.v C.hh p).rd = fun h => f C.tm (envOf C.v p) h) : ∃ H', HR C.S ρ H' w ∧ f C.tm (envOf C.v p) H' = some (C.v p) := by
  rcases hk with hk | hk
  · exact ⟨C.hh t, I.1.hr, by rw [hpure hk _ (C.hh p)]; exact hf⟩
  · have hp := R.d.lt hx
    have hne2 : x.k ≠ 2 := by omega
    rcases Nat.lt_or_ge t p with h | h
    · -- the next one that changes memory is ahead of it
      obtain ⟨y, hy, hyk⟩ := I.2 (by omega)
      obtain ⟨h1, h2⟩ := R.d.two h hy hx
      have ho : ordB (befs C.ops []) y.i x.i = false := by
        rcases h2 with h2 | h2
        · have := hr.ord I.1.cl h2
          rw [I.1.tA t y (Nat.le_refl _) hy hyk] at this; cases this
        · cases hq : ordB (befs C.ops []) y.i x.i with
          | false => rfl
          | true =>
            have := hr.ord I.1.cl hq
            rw [I.1.tA t y (Nat.le_refl _) hy hyk] at this; cases this
      have := (R.chk p t x y hx hy hk hyk h1 ho).1
      rw [hrd] at this
      exact ⟨C.hh t, I.1.hr, this⟩
    · -- the last one that has changed memory
      by_cases hq : ∃ q y, p < q ∧ q < t ∧ C.L[q]? = some y ∧ y.k = 2
      · -- take the greatest such
        have key : ∀ (m : Nat) (q : Nat) (y : DI), t - q = m → p < q → q < t → C.L[q]? = some y → y.k = 2 → ∃ q' y', p < q' ∧ q' < t ∧ C.L[q']? = some y' ∧ y'.k = 2 ∧ ∀ (r : Nat) (z : DI), q' < r → r < t → C.L[r]? = some z → z.k ≠ 2 := by
          intro m
          induction m using Nat.strongRecOn with
          | ind m ih =>
            intro q y hm h1 h2 h3 h4
            by_cases hmore : ∃ r z, q < r ∧ r < t ∧ C.L[r]? = some z ∧ z.k = 2
            · obtain ⟨r, z, g1, g2, g3, g4⟩ := hmore
              exact ih (t - r) (by omega) r z rfl (by omega) g2 g3 g4
            · exact ⟨q, y, h1, h2, h3, h4, fun r z g1 g2 g3 g4 => hmore ⟨r, z, g1, g2, g3, g4⟩⟩
        obtain ⟨q0, y0, g1, g2, g3, g4⟩ := hq
        obtain ⟨q, y, h1, h2, h3, h4, h5⟩ := key _ q0 y0 rfl g1 g2 g3 g4
        obtain ⟨e1, e2⟩ := R.d.two h1 hx h3
        have hDy := I.1.tB q y h2 h3 h4
        have ho : ordB (befs C.ops []) x.i y.i = false := by
          cases hq : ordB (befs C.ops []) x.i y.i with
          | false => rfl
          | true =>
            have := I.1.cl.ord (R.d.src q y h3) hDy hq
            rw [hr.out] at this; cases this
        have := (R.chk p q x y hx h3 hk h4 ho e1).2
        rw [hrd] at this
        refine ⟨C.hh (q + 1), I.1.undo R _ rfl (by omega) (fun r z k1 k2 k3 => h5 r z (by omega) k2 k3), this⟩
      · refine ⟨C.hh p, I.1.undo R _ rfl h (fun q y k1 k2 k3 k4 => ?_), hf⟩
        rcases Nat.lt_or_ge p q with h' | h'
        · exact hq ⟨q, y, h', k2, k3, k4⟩
        · obtain rfl : q = p := by omega
          rw [hx] at k3
          obtain rfl := Option.some.inj k3
          omega
end
end Go.Ai

namespace Go.Ai
open Go

section
variable {C : DC} {D : Nat → Bool} {t : Nat} {ρ ρ' : Rho} {a : Act} {w w' : World} {p : Nat} {x : DI}

theorem put_defers (a : Act) (d : Option Nat) (v : Value) : (a.put d v).defers = a.defers := by cases d <;> rfl

theorem DPre.stay (R : DRun C) (I : DPre C D t ρ a w) (hx : C.L[p]? = some x) (hr : Ready C.ops D x.i x.o) (hk : x.k ≠ 2) (h4 : x.k = 4 → C.hh (p + 1) = C.hh p) {v' : Value} (hv : VRel ρ (C.v p) v') : DPre C (addD D x.i) t ρ (a.put x.o.dst v') w := by
  obtain ⟨l1, l2, l3⟩ := I.lastN R hx hr (Rho.le_refl ρ) (a1 := a) rfl hv
  refine ⟨I.tle, ?_, ?_, I.cl.add hr, I.hr, I.gl, I.ext, I.nx, l3, by rw [put_defers]; exact I.dfr, l1, l2, ?_, ?_, I.fD⟩
  · intro q y hq hy hk2
    rw [addD_ne]
    · exact I.tA q y hq hy hk2
    · intro e
      obtain rfl := R.d.inj hy hx e
      rw [hx] at hy
      obtain rfl := Option.some.inj hy
      exact hk hk2
  · intro q y hq hy hk2
    exact addD_le (I.tB q y hq hy hk2)
  · intro q y hy hk4 hD
    exact I.fN q y hy hk4 (addD_false hD).2
  · intro q y hq hy hk4 hD
    by_cases e : y.i = x.i
    · obtain rfl := R.d.inj hy hx e
      rw [hx] at hy
      obtain rfl := Option.some.inj hy
      exact .inl ⟨h4 hk4, I.fN q x hx hk4 hr.out⟩
    · rw [addD_ne e] at hD
      exact I.fE q y hq hy hk4 hD
theorem DPre.move (R : DRun C) (I : DPre C D t ρ a w) (hx : C.L[t]? = some x) (hr : Ready C.ops D x.i x.o) (hk : x.k = 2) {ρ2 : Rho} {w2 : World} (r2 : HR C.S ρ2 (C.hh (t + 1)) w2) (x2 : Ext ρ (C.hh t) w ρ2 (C.hh (t + 1)) w2) {v' : Value}
    (hv : VRel ρ2 (C.v t) v') : DPre C (addD D x.i) (t + 1) ρ2 (a.put x.o.dst v') w2 := by
  obtain ⟨l1, l2, l3⟩ := I.lastN R hx hr x2.le (a1 := a) rfl hv
  have old : ∀ (q : Nat) (y : DI) (pl : Place), C.L[q]? = some y → y.k = 4 → ρ2 (C.rid q) = some pl → ρ (C.rid q) = some pl := by
    intro q y pl hy hk4 h
    rcases x2.new _ _ h with h1 | h1
    · exact h1
    · have := R.rid_lt hy hk4
      have := I.nx
      omega
  have noneN : ∀ (q : Nat) (y : DI), C.L[q]? = some y → y.k = 4 → ρ (C.rid q) = none → ρ2 (C.rid q) = none := by
    intro q y hy hk4 h
    cases hq : ρ2 (C.rid q) with
    | none => rfl
    | some pl => rw [old q y pl hy hk4 hq] at h; cases h
  refine ⟨R.d.lt hx, ?_, ?_, I.cl.add hr, r2, I.gl.mono x2.le, I.ext.trans x2, Nat.le_trans I.nx x2.nx, l3, by rw [put_defers]; exact I.dfr, l1, l2, ?_, ?_, ?_⟩
  · intro q y hq hy hk2
    rw [addD_ne]
    · exact I.tA q y (by omega) hy hk2
    · intro e
      have := R.d.inj hy hx e
      omega
  · intro q y hq hy hk2
    rcases Nat.lt_or_ge q t with h | h
    · exact addD_le (I.tB q y h hy hk2)
    · obtain rfl : q = t := by omega
      rw [hx] at hy
      obtain rfl := Option.some.inj hy
      exact addD_self _ _
  · intro q y hy hk4 hD
    exact noneN q y hy hk4 (I.fN q y hy hk4 (addD_false hD).2)
  · intro q y hq hy hk4 hD
    have e : y.i ≠ x.i := fun e => by have := R.d.inj hy hx e; omega
    rw [addD_ne e] at hD
    rcases I.fE q y (by omega) hy hk4 hD with ⟨h1, h2⟩ | h
    · exact .inl ⟨h1, noneN q y hy hk4 h2⟩
    · refine .inr (early_mono h x2.le fun cb hlt hn => ⟨x2.frame cb hlt fun ⟨b, pl, z, g1, g2, _, g4⟩ => hn ⟨b, pl, z, g1, g2, g4⟩, fun hl => ?_⟩)
      rcases x2.liv cb hl with h1 | h1
      · exact hn h1
      · omega
  · intro q q' y y' pl pl' hne hq hq' hy hy' hk4 hk4' h1 h2
    exact I.fD q q' y y' pl pl' hne (by omega) (by omega) hy hy' hk4 hk4' (old q y pl hy hk4 h1) (old q' y' pl' hy' hk4' h2)
theorem DRun.keepNone (R : DRun C) {r : Nat} : ∀ (m : Nat) {u u' : Nat}, u' - u = m → u ≤ u' → u' ≤ C.L.length → (∀ (q : Nat) (y : DI), u ≤ q → q < u' → C.L[q]? = some y → y.k ≠ 2 ∧ (y.k = 4 → C.rid q ≠ r)) → (C.hh u').get r = (C.hh u).get r
  | 0, u, u', hm, hle, _, _ => by
    obtain rfl : u = u' := by omega
    rfl
  | m + 1, u, u', hm, hle, hlen, hno => by
    have hlt : u < C.L.length := by omega
    have hx : C.L[u]? = some (C.L[u]'hlt) := List.getElem?_eq_getElem hlt
    obtain ⟨h1, h2⟩ := hno u _ (Nat.le_refl _) (by omega) hx
    rw [DRun.keepNone R m (u := u + 1) (u' := u') (by omega) (by omega) hlen fun q y g1 g2 => hno q y (by omega) g2]
    rcases R.still hx h1 with he | ⟨hk4, y, _, he⟩
    · rw [he]
    · rw [he, get_put, if_neg (h2 hk4)]
theorem DPre.same {w' : World} (hh : w'.heap = w.heap) (hos : w'.os = w.os) (hout : w'.output = w.output) (I : DPre C D t ρ a w) : DPre C D t ρ a w' := by
  obtain ⟨r, x⟩ := I.hr.sameHeap hh hos hout
  refine ⟨I.tle, I.tA, I.tB, I.cl, r, I.gl, I.ext.trans x, I.nx, I.sz, I.dfr, I.last, I.non, I.fN, fun p y h1 h2 h3 h4 => (I.fE p y h1 h2 h3 h4).imp_right ?_, I.fD⟩
  rintro ⟨pl, o, z, g1, g2, g3⟩
  exact ⟨pl, o, z, g1, by rw [hh]; exact g2, g3⟩
theorem DInv.make (R : DRun C) (I0 : DInv C D t ρ a w) (hx : C.L[p]? = some x) (hr : Ready C.ops D x.i x.o) (hk : x.k = 4) {ev : Operand → Value} {y : AObj} (hn : NewOk C.S ρ w ev x.o (C.v p) (C.rid p) y)
    (hnone : (C.hh p).get (C.rid p) = none) (he : C.hh (p + 1) = (C.hh p).put (C.rid p) y) :
    ∃ ρ' v' w', (execOp ev x.o).run C.S.P w = .ok (.value v') w' ∧ DPre C (addD D x.i) t ρ' (a.put x.o.dst v') w' := by
  obtain ⟨I, hM⟩ := I0
  obtain ⟨obj, sz, es, v', w', hrun, e1, e2, e3, hob, hvr⟩ := hn
  let pl : Place := ⟨w.heap.size, 0, sz, es⟩
  have hρ := I.fN p x hx hk hr.out
  have hrl := R.rid_lt hx hk
  have hnx := I.nx
  have hle := Rho.le_with' pl hρ
  have hobj : ObjR C.S (ρ.with (C.rid p) pl) y pl obj := hob _ hle
  have hget : (t ≤ p ∧ (C.hh t).get (C.rid p) = none) ∨ (p < t ∧ (C.hh t).get (C.rid p) = some y) := by
    rcases Nat.lt_or_ge p t with h | h
    · right
      refine ⟨h, ?_⟩
      rw [R.keepNone (r := C.rid p) _ rfl (show p + 1 ≤ t by omega) I.tle fun q z g1 g2 g3 => ⟨fun hk2 => ?_, fun hk4 => R.rid_ne g3 hk4 hx hk (by omega)⟩]
      · rw [he, get_put, if_pos rfl]
      · -- it would come behind p
        obtain ⟨_, h2⟩ := R.d.two (show p < q by omega) hx g3
        rcases h2 with h2 | ⟨_, h2, _⟩
        · have := I.cl.ord (R.d.src q z g3) (I.tB q z g2 g3 hk2) h2
          rw [hr.out] at this; cases this
        · exact h2 ⟨hk, hk2⟩
    · left
      refine ⟨h, ?_⟩
      have hp := R.d.lt hx
      have htp : t < p := by
        rcases Nat.lt_or_ge t p with h' | h'
        · exact h'
        · obtain rfl : t = p := by omega
          obtain ⟨z, hz, hzk⟩ := hM hp
          rw [hx] at hz
          obtain rfl := Option.some.inj hz
          omega
      obtain ⟨z, hz, hzk⟩ := hM (by omega)
      obtain ⟨s, hs, hkn, hchk, _⟩ := R.st hz
      have hall : allNone (C.hh t) (C.rid t) (C.nf - kF C.LD t) = true := by
        cases hkn with
        | v _ _ _ h0 => omega
        | h => exact hchk
        | c => exact hchk
        | f _ _ _ h4 => omega
      have hm := kF_mono (L := C.LD) (show t ≤ p by omega)
      refine allNone_get hall _ ?_ ?_
      · unfold DC.rid; omega
      · unfold DC.rid at hrl ⊢; omega
  have hr' := I.hr.allocAt (o := obj) hρ (by omega) (show pl.blk = w.heap.size from rfl) (fun z hz => by
    rcases hget with ⟨_, h⟩ | ⟨_, h⟩
    · rw [h] at hz; cases hz
    · rw [h] at hz
      obtain rfl := Option.some.inj hz
      exact hobj)
  have hx' := I.ext.allocAt obj hρ (show C.h0.nx ≤ C.rid p from Nat.le_add_right _ _) (show pl.blk = w.heap.size from rfl)
  have hself : (ρ.with (C.rid p) pl) (C.rid p) = some pl := Rho.with_self _ _ _
  obtain ⟨l1, l2, l3⟩ := I.lastN R hx hr hle (a1 := a) rfl (hvr _ pl rfl hself)
  have other : ∀ (q : Nat) (z : DI), C.L[q]? = some z → z.k = 4 → q ≠ p → (ρ.with (C.rid p) pl) (C.rid q) = ρ (C.rid q) := by
    intro q z hz hk4 hne
    have := R.rid_ne hz hk4 hx hk hne
    unfold Rho.with
    rw [if_neg this]
  refine ⟨_, v', w', hrun, DPre.same (w := World.alloc w obj) (w' := w') e1 e2 e3 ⟨I.tle, ?_, ?_, I.cl.add hr, hr', I.gl.mono hle, hx', I.nx, l3, by rw [put_defers]; exact I.dfr, l1, l2, ?_, ?_, ?_⟩⟩
  · intro q z hq hz hk2
    rw [addD_ne]
    · exact I.tA q z hq hz hk2
    · intro e
      obtain rfl := R.d.inj hz hx e
      rw [hx] at hz
      obtain rfl := Option.some.inj hz
      omega
  · intro q z hq hz hk2
    exact addD_le (I.tB q z hq hz hk2)
  · intro q z hz hk4 hD
    obtain ⟨e, hD⟩ := addD_false hD
    have hne : q ≠ p := by
      rintro rfl
      rw [hx] at hz
      obtain rfl := Option.some.inj hz
      exact e rfl
    rw [other q z hz hk4 hne]
    exact I.fN q z hz hk4 hD
  · intro q z hq hz hk4 hD
    by_cases e : z.i = x.i
    · obtain rfl := R.d.inj hz hx e
      rw [hx] at hz
      obtain rfl := Option.some.inj hz
      refine .inr ⟨pl, _, _, hself, ?_, hobj, he, ?_, I.ext.size⟩
      · rw [alloc_get, if_pos rfl]
      · rintro ⟨b, pb, zb, k1, k2, k3⟩
        unfold Rho.with at k1
        split at k1
        · rename_i eb; subst eb
          rcases hget with ⟨_, h⟩ | ⟨h, _⟩
          · rw [h] at k2; cases k2
          · omega
        · have := (I.hr.bound _ _ k1).2
          have k3 : pb.blk = w.heap.size := k3
          omega
    · rw [addD_ne e] at hD
      have hne : q ≠ p := by
        rintro rfl
        rw [hx] at hz
        obtain rfl := Option.some.inj hz
        exact e rfl
      rcases I.fE q z hq hz hk4 hD with ⟨h1, h2⟩ | h
      · exact .inl ⟨h1, by rw [other q z hz hk4 hne]; exact h2⟩
      · refine .inr (early_mono h hle fun cb hlt hn => ⟨by rw [alloc_get, if_neg (by omega)], ?_⟩)
        rintro ⟨b, pb, zb, k1, k2, k3⟩
        unfold Rho.with at k1
        split at k1
        · obtain rfl := Option.some.inj k1
          have k3 : w.heap.size = cb := k3
          omega
        · exact hn ⟨b, pb, zb, k1, k2, k3⟩
  · intro q q' z z' pq pq' hne hq hq' hz hz' hk4 hk4' h1 h2
    by_cases e : q = p
    · subst e
      rw [hself] at h1
      obtain rfl := Option.some.inj h1
      rw [other q' z' hz' hk4' (fun e => hne e.symm)] at h2
      have := (I.hr.bound _ _ h2).2
      show w.heap.size ≠ pq'.blk
      omega
    · rw [other q z hz hk4 e] at h1
      by_cases e' : q' = p
      · subst e'
        rw [hself] at h2
        obtain rfl := Option.some.inj h2
        have := (I.hr.bound _ _ h1).2
        show pq.blk ≠ w.heap.size
        omega
      · rw [other q' z' hz' hk4' e'] at h2
        exact I.fD q q' z z' pq pq' hne hq hq' hz hz' hk4 hk4' h1 h2

theorem DInv.step (R : DRun C) (I0 : DInv C D t ρ a w) (hx : C.L[p]? = some x) (hr : Ready C.ops D x.i x.o) (b : FB) (k : List Item) (cs : List Frame) (rest : List Nat) :
    ∃ t' ρ' a' w', DInv C (addD D x.i) t' ρ' a' w' ∧ Steps C.S.P (lone (b.at a (.inRegion C.ops.toArray (x.i :: rest) :: k)) cs w) (lone (b.at a' (.inRegion C.ops.toArray rest :: k)) cs w') := by
  obtain ⟨I, hM⟩ := I0
  have ho : C.ops.toArray[x.i]? = some x.o := by simpa using hr.get
  obtain ⟨s, hs, hkn, hchk, hst⟩ := R.st hx
  have hso := I.so R hx hr
  have hev : execOp (evS C.ops x.o a C.a0) x.o = execOp a.eval x.o := evS_eq hkn.not_select
  have hnd : b.rd = none ∨ ∀ c, x.o.op ≠ .defer c := .inr hkn.not_defer
  rcases hst with ⟨hw, hv, hh⟩ | ⟨hw, hst⟩
  · -- it is passed over
    have hw' := I.want R hx hr hw
    have hstep : Steps C.S.P (lone (b.at a (.inRegion C.ops.toArray (x.i :: rest) :: k)) cs w) (lone (b.at (a.put x.o.dst undef) (.inRegion C.ops.toArray rest :: k)) cs w) := .one (st_op_skip ho hw')
    have hu : VRel ρ (C.v p) undef := by rw [hv]; exact unit_rel
    by_cases hk : x.k = 2
    · obtain rfl := DInv.here R ⟨I, hM⟩ hx hr hk
      have I1 := I.move R hx hr hk (ρ2 := ρ) (w2 := w) (by rw [hh]; exact I.hr) (by rw [hh]; exact Ext.refl _ _ _) hu
      obtain ⟨t', _, I2⟩ := I1.inv R _ rfl
      exact ⟨t', ρ, _, w, I2, hstep⟩
    · have I1 := I.stay R hx hr hk (fun _ => hh) hu
      exact ⟨t, ρ, _, w, ⟨I1, hM⟩, hstep⟩
  · have hw' := I.want R hx hr hw
    cases hkn with
    | v f hc hV hk hpure =>
      simp only [stepD] at hst
      cases hf : f C.tm (envOf C.v p) (C.hh p) with
      | none => rw [hf] at hst; cases hst
      | some u =>
        rw [hf] at hst
        obtain ⟨rfl, hh⟩ : u = C.v p ∧ C.hh p = C.hh (p + 1) := by injection hst with hst; injection hst with h1 h2; exact ⟨h1, h2⟩
        have hrd : (evAt C.tm C.LD C.v C.hh p).rd = fun h => f C.tm (envOf C.v p) h := by
          unfold evAt
          rw [hs]
          simp only [hw, rdD]
          rfl
        obtain ⟨H', hr', hf'⟩ := DInv.mem R ⟨I, hM⟩ hx hr hk hf (fun h0 h h' => memK_pure (hpure h0) hV _ _ h h') hrd
        obtain ⟨v', hrun, hvr⟩ := (cop_ok hr' hso hc).1 f _ hV hf'
        rw [hev] at hrun
        have I1 := I.stay R hx hr (by omega) (fun h4 => by omega) hvr
        exact ⟨t, ρ, _, w, ⟨I1, hM⟩, .one (st_value ho hw' hnd hrun)⟩
    | h f hc hH hk =>
      obtain rfl := DInv.here R ⟨I, hM⟩ hx hr hk
      simp only [stepD] at hst
      cases hf : f C.tm (envOf C.v p) (C.hh p) with
      | bad => rw [hf] at hst; cases hst
      | ok u h' =>
        rw [hf] at hst
        obtain ⟨rfl, rfl⟩ : u = C.v p ∧ h' = C.hh (p + 1) := by injection hst with hst; injection hst with h1 h2; exact ⟨h1, h2⟩
        have hok : HOk C.S ρ (C.hh p) w (evS C.ops x.o a C.a0) x.o (C.v p) (C.hh (p + 1)) := by
          rcases hc with hc | hc
          · obtain ⟨f', h1, h2, h3⟩ := calloc_ok (S := C.S) hc
            rw [hH] at h2
            obtain rfl := Option.some.inj h2
            obtain ⟨y, h4, h5⟩ := h3 _ _ _ _ _ ρ w _ hso hf
            rw [h4]
            exact h5.hok I.hr
          · exact (cop_ok I.hr hso hc).2 f _ _ hH hf
        obtain ⟨nx, w2, ρ2, hrun, hnx, r2, x2⟩ := hok
        rw [hev] at hrun
        rcases hnx with ⟨v', rfl, hvr⟩ | ⟨rfl, hv⟩
        · have I1 := I.move R hx hr hk r2 x2 hvr
          obtain ⟨t', _, I2⟩ := I1.inv R _ rfl
          exact ⟨t', ρ2, _, w2, I2, .one (st_value ho hw' hnd hrun)⟩
        · have I1 := I.move R hx hr hk r2 x2 (v' := undef) (by rw [hv]; exact unit_rel)
          obtain ⟨t', _, I2⟩ := I1.inv R _ rfl
          exact ⟨t', ρ2, _, w2, I2, .one (st_none ho hw' hnd hrun)⟩
    | c cl q args hop hq hargs hk =>
      obtain rfl := DInv.here R ⟨I, hM⟩ hx hr hk
      simp only [stepD] at hst
      cases hrd : rdL (denL args) C.tm (envOf C.v p) with
      | none => rw [hrd] at hst; cases hst
      | some l =>
        rw [hrd] at hst
        have hcall := calleeN R.hS R.hrc I.hr I.gl hso hop hq hargs hrd (b.at a (.inRegion C.ops.toArray (x.i :: rest) :: k)) cs
        rw [hev] at hcall
        simp only at hst
        split at hst
        · rename_i u up h' hout
          obtain ⟨rfl, rfl⟩ : u = C.v p ∧ h' = C.hh (p + 1) := by injection hst with hst; injection hst with h1 h2; exact ⟨h1, h2⟩
          rw [hout] at hcall
          obtain ⟨m, ρ2, w2, haft, hcall⟩ := hcall
          cases up with
          | some u => exact hcall.elim
          | none =>
            obtain ⟨v', hvr, r2, x2, s2⟩ := hcall
            have hfin : (b.at a (.inRegion C.ops.toArray (x.i :: rest) :: k)).finish v' = b.at (a.put x.o.dst v') (.inRegion C.ops.toArray rest :: k) := by
              have := FB.finish b a C.ops.toArray x.i rest k v'
              rw [ho] at this; exact this
            rw [hfin] at s2
            have I1 := I.move R hx hr hk r2 x2 hvr
            obtain ⟨t', _, I2⟩ := I1.inv R _ rfl
            exact ⟨t', ρ2, _, w2, I2, .head (st_after ho hw' hnd haft) s2⟩
        · cases hst
    | f f hc hH hk =>
      simp only [stepD] at hst
      cases hf : f C.tm (envOf C.v p) ⟨.nil, C.rid p⟩ with
      | bad => rw [hf] at hst; cases hst
      | ok u h' =>
        rw [hf] at hst
        simp only at hst
        cases hg : h'.get (C.rid p) with
        | none => rw [hg] at hst; cases hst
        | some y =>
          rw [hg] at hst
          simp only at hst
          cases hn : (C.hh p).get (C.rid p) with
          | some z => rw [hn] at hst; cases hst
          | none =>
            rw [hn] at hst
            obtain ⟨rfl, hh⟩ : u = C.v p ∧ (C.hh p).put (C.rid p) y = C.hh (p + 1) := by injection hst with hst; injection hst with h1 h2; exact ⟨h1, h2⟩
            obtain ⟨f', h1, h2, h3⟩ := calloc_ok (S := C.S) hc
            rw [hH] at h2
            obtain rfl := Option.some.inj h2
            obtain ⟨y', h4, h5⟩ := h3 _ _ _ _ _ ρ w _ hso hf
            have : y' = y := by
              rw [h4, get_new] at hg
              have e : (⟨.nil, C.rid p⟩ : H).nx = C.rid p := rfl
              rw [if_pos e] at hg
              exact Option.some.inj hg
            subst this
            obtain ⟨ρ', v', w', hrun, I1⟩ := DInv.make R ⟨I, hM⟩ hx hr hk h5 hn hh.symm
            rw [hev] at hrun
            exact ⟨t, ρ', _, w', ⟨I1, hM⟩, .one (st_value ho hw' hnd hrun)⟩
end
end Go.Ai

namespace Go.Ai
open Go

def cntD (D : Nat → Bool) : Nat → Nat
  | 0 => 0
  | n + 1 => cntD D n + (if D n then 0 else 1)
theorem cntD_zero {D : Nat → Bool} : ∀ {n : Nat}, cntD D n = 0 → ∀ i, i < n → D i = true
  | 0, _, i, h => by omega
  | n + 1, h, i, hi => by
    simp only [cntD] at h
    rcases Nat.lt_or_ge i n with h' | h'
    · exact cntD_zero (by omega) i h'
    · obtain rfl : i = n := by omega
      cases hD : D i with
      | true => rfl
      | false => simp [hD] at h
theorem cntD_congr {D D' : Nat → Bool} : ∀ {n : Nat}, (∀ i, i < n → D i = D' i) → cntD D n = cntD D' n
  | 0, _ => rfl
  | n + 1, h => by rw [cntD, cntD, cntD_congr fun i hi => h i (by omega), h n (by omega)]
theorem cntD_add {D : Nat → Bool} {i : Nat} (hD : D i = false) : ∀ {n : Nat}, i < n → cntD (addD D i) n + 1 = cntD D n
  | 0, h => by omega
  | n + 1, h => by
    rw [cntD, cntD]
    rcases Nat.lt_or_ge i n with h' | h'
    · have := cntD_add hD h'
      rw [addD_ne (show n ≠ i by omega)]; omega
    · obtain rfl : i = n := by omega
      rw [addD_self, hD, cntD_congr (D := addD D i) (D' := D) fun j hj => addD_ne (by omega)]
      simp
theorem cntD_pos {D : Nat → Bool} : ∀ {n : Nat}, 0 < cntD D n → ∃ i, i < n ∧ D i = false ∧ ∀ j, j < i → D j = true
  | 0, h => by simp [cntD] at h
  | n + 1, h => by
    rcases Nat.eq_zero_or_pos (cntD D n) with h0 | h0
    · refine ⟨n, by omega, ?_, fun j hj => cntD_zero h0 j hj⟩
      cases hD : D n with
      | false => rfl
      | true => simp [cntD, h0, hD] at h
    · obtain ⟨i, h1, h2, h3⟩ := cntD_pos h0
      exact ⟨i, by omega, h2, h3⟩

section
variable {C : DC}
theorem sched_ok (R : DRun C) (b : FB) (k : List Item) (cs : List Frame) : ∀ (fuel tt : Nat) (listed : Array Bool) (t : Nat) (ρ : Rho) (a : Act) (w : World), listed.size = C.ops.length → cntD (fun i => listed.getD i false) C.ops.length = fuel →
    DInv C (fun i => listed.getD i false) t ρ a w → ∃ t' ρ' a' w' D', (∀ i, i < C.ops.length → D' i = true) ∧ DInv C D' t' ρ' a' w' ∧
      Steps C.S.P (lone (b.at a (.inRegion C.ops.toArray (Region.linearise.go .any C.ops.toArray fuel tt listed []) :: k)) cs w) (lone (b.at a' (.inRegion C.ops.toArray [] :: k)) cs w')
  | 0, tt, listed, t, ρ, a, w, hsz, hcnt, I => ⟨t, ρ, a, w, _, cntD_zero hcnt, I, .refl _ _⟩
  | fuel + 1, tt, listed, t, ρ, a, w, hsz, hcnt, I => by
    obtain ⟨i0, hi0, hout0, hmin⟩ := cntD_pos (D := fun i => listed.getD i false) (n := C.ops.length) (by omega)
    have hmem0 : i0 ∈ Region.ready .any C.ops.toArray listed := by
      refine List.mem_filter.2 ⟨by simpa using hi0, ?_⟩
      have h1 : listed.getD i0 true = false := by
        have := hout0
        simp only [Array.getD_eq_getD_getElem?] at this ⊢
        rw [Array.getElem?_eq_getElem (by omega)] at this ⊢
        simpa using this
      have h2 : C.ops.toArray[i0]? = some (C.ops[i0]'hi0) := by simp [hi0]
      rw [h1, h2]
      simp only [Option.map_some, Option.getD_some, Bool.not_false, Bool.true_and]
      rw [Array.all_eq_true']
      intro e he
      cases hb : Region.binds .any e with
      | false => rfl
      | true =>
        have := aftOk_get R.d.aft (List.getElem?_eq_getElem hi0) e (by simpa using he) hb
        have h3 : listed.getD e.on false = true := hmin e.on (by omega)
        rw [h3]; rfl
    cases hi : (Region.ready .any C.ops.toArray listed)[tt % (Region.ready .any C.ops.toArray listed).length]? with
    | none =>
      exfalso
      have hpos : 0 < (Region.ready .any C.ops.toArray listed).length := List.length_pos_of_mem hmem0
      have := Nat.mod_lt tt hpos
      rw [List.getElem?_eq_none_iff] at hi
      omega
    | some i =>
      have hm := List.mem_of_getElem? hi
      obtain ⟨h1, h2⟩ := List.mem_filter.1 hm
      have hin : i < C.ops.length := by simpa using h1
      have ho : C.ops.toArray[i]? = some (C.ops[i]'hin) := by simp [hin]
      rw [ho] at h2
      simp only [Option.map_some, Option.getD_some, Bool.and_eq_true, Bool.not_eq_true'] at h2
      have hout : listed.getD i false = false := by
        have := h2.1
        simp only [Array.getD_eq_getD_getElem?] at this ⊢
        rw [Array.getElem?_eq_getElem (by omega)] at this ⊢
        simpa using this
      obtain ⟨p, x, hx, hxi⟩ := R.d.cov i hin
      have hr : Ready C.ops (fun i => listed.getD i false) x.i x.o := by
        refine ⟨R.d.src p x hx, by rw [hxi]; exact hout, fun e he hb => ?_⟩
        have hsrc := R.d.src p x hx
        rw [hxi, List.getElem?_eq_getElem hin] at hsrc
        have := h2.2
        rw [Option.some.inj hsrc, Array.all_eq_true'] at this
        have := this e (by simpa using he)
        rw [hb] at this
        simpa using this
      have hgo : Region.linearise.go .any C.ops.toArray (fuel + 1) tt listed [] = x.i :: Region.linearise.go .any C.ops.toArray fuel (tt / (Region.ready .any C.ops.toArray listed).length) (listed.setIfInBounds x.i true) [] := by
        simp only [Region.linearise.go]
        change (match (Region.ready .any C.ops.toArray listed)[tt % (Region.ready .any C.ops.toArray listed).length]? with
          | some i => Region.linearise.go .any C.ops.toArray fuel (tt / (Region.ready .any C.ops.toArray listed).length) (listed.setIfInBounds i true) [i]
          | none => [].reverse) = _
        rw [hi, hxi]
        simp only
        rw [linearise_go_acc]; simp
      obtain ⟨t1, ρ1, a1, w1, I1, s1⟩ := I.step R hx hr b k cs (Region.linearise.go .any C.ops.toArray fuel (tt / (Region.ready .any C.ops.toArray listed).length) (listed.setIfInBounds x.i true) [])
      have hD : addD (fun i => listed.getD i false) x.i = fun j => (listed.setIfInBounds x.i true).getD j false := by
        funext j
        unfold addD
        simp only [Array.getD_eq_getD_getElem?, Array.getElem?_setIfInBounds]
        by_cases hj : j = x.i
        · subst hj; simp [hxi, hsz, hin]
        · rw [if_neg hj, if_neg (fun e => hj e.symm)]
      rw [hD] at I1
      obtain ⟨t', ρ', a', w', D', g1, g2, g3⟩ := sched_ok R b k cs fuel (tt / (Region.ready .any C.ops.toArray listed).length) (listed.setIfInBounds x.i true) t1 ρ1 a1 w1 (by simpa using hsz) (by
        rw [← hD]
        have := cntD_add (D := fun i => listed.getD i false) hr.out (n := C.ops.length) (by rw [hxi]; exact hin)
        omega) I1
      exact ⟨t', ρ', a', w', D', g1, g2, by rw [hgo]; exact s1.trans g3⟩
end

theorem setD_ok {ρ ρ' : Rho} {tmps tmps' : Array Value} {e : Env} {ds : List (Option Nat)} (hset : ∀ s j u, lastD s ds 0 = some j → e[j]? = some u → s < tmps.size → SlotR ρ' tmps' u s)
    (hold : ∀ s u, lastD s ds 0 = none → SlotR ρ tmps u s → SlotR ρ' tmps' u s) : ∀ {keep : List Nat} {tm tm' : TM}, TMR ρ tmps keep tm → setD e (keep.map fun s => lastD s ds 0) tm = some tm' → TMR ρ' tmps' keep tm'
  | [], tm, tm', ht, h => by
    cases ht
    obtain rfl := Option.some.inj h
    exact .nil
  | s :: ks, tm, tm', ht, h => by
    cases ht with
    | cons _ _ a tm hs ht =>
      simp only [List.map_cons, setD] at h
      cases hj : lastD s ds 0 with
      | none =>
        rw [hj] at h
        simp only at h
        split at h
        · rename_i r hr
          obtain rfl := Option.some.inj h
          exact .cons _ _ _ _ (hold s a hj hs) (setD_ok hset hold ht hr)
        · cases h
      | some j =>
        rw [hj] at h
        simp only at h
        split at h
        · rename_i u hu
          split at h
          · rename_i r hr
            obtain rfl := Option.some.inj h
            rw [nth_eq] at hu
            exact .cons _ _ _ _ (hset s j u hj hu hs.1) (setD_ok hset hold ht hr)
          · cases h
        · cases h
theorem checkD_get {evs : List DEv} : ∀ {cf : List (Nat × Nat)}, checkD evs cf = true → ∀ i j, (i, j) ∈ cf → ∃ r w, evs[i]? = some r ∧ evs[j]? = some w ∧ r.rd w.h0 = some r.v ∧ r.rd w.h1 = some r.v
  | [], _, i, j, h => by cases h
  | (i0, j0) :: cf, hc, i, j, h => by
    simp only [checkD] at hc
    split at hc
    · cases hc
    rename_i r hr
    split at hc
    · cases hc
    rename_i w hw
    split at hc
    case h_2 => cases hc
    rename_i h1
    split at hc
    case h_2 => cases hc
    rename_i h2
    rcases List.mem_cons.1 h with h | h
    · injection h with e1 e2
      subst e1 e2
      rw [nth_eq] at hr hw
      exact ⟨r, w, hr, hw, sameO_eq h1, sameO_eq h2⟩
    · exact checkD_get hc i j h

theorem fixK_fields (fs : List Nat) (x : DI) : (fixK fs x).i = x.i ∧ (fixK fs x).o = x.o ∧ (fixK fs x).op = x.op ∧ (fixK fs x).g = x.g ∧ ((fixK fs x).k = x.k ∨ (x.k = 4 ∧ (fixK fs x).k = 2)) := by
  unfold fixK
  split
  · rename_i h
    simp only [Bool.and_eq_true, beq_iff_eq] at h
    exact ⟨rfl, rfl, rfl, rfl, .inr ⟨h.1, rfl⟩⟩
  · exact ⟨rfl, rfl, rfl, rfl, .inl rfl⟩
theorem dsAt_fix (fs : List Nat) (L : List DI) (p : Nat) : dsAt (L.map (fixK fs)) p = dsAt L p := by
  unfold dsAt
  rw [← List.map_take, List.map_map]
  congr 1
  exact List.map_congr_left fun x _ => by simp only [Function.comp, (fixK_fields fs x).2.1]

theorem drawD_ok {S : Stat} {keep : List Nat} {nt id : Nat} {ops : Array Oper} {order fs : List Nat} (hdst : dstOk nt ops.toList = true) : CodeOk' S keep nt (.region id ops true) (drawD S.P keep (befs ops.toList []) ops.toList order fs).den := by
  unfold drawD
  split
  · exact bad_ok'
  rename_i L0 hcomp
  simp only
  split
  case isFalse => exact bad_ok'
  rename_i hcond
  simp only [Bool.and_eq_true] at hcond
  obtain ⟨⟨⟨haft, hcov⟩, hpairs⟩, hk3⟩ := hcond
  intro hS hn rc n hrc b k cs ρ0 a0 w0 tm fx h0 st
  simp only [ACode.den]
  cases hden : denDs ((L0.map (fixK fs)).map fun x => ((⟨x.op, x.g⟩ : AOper), x.k == 4)) with
  | none => trivial
  | some LD =>
    simp only
    obtain ⟨hl, hcmp⟩ := compD_ok hcomp
    obtain ⟨hlen, hget⟩ := denDs_get hden
    simp only [List.length_map] at hlen
    have d : DD S keep nt ops.toList (L0.map (fixK fs)) LD := by
      refine ⟨hdst, ?_, ?_, haft, pairsOk_get hpairs, ?_, ?_, by simpa using hlen⟩
      · intro p x hx
        rw [List.getElem?_map] at hx
        cases hy : L0[p]? with
        | none => rw [hy] at hx; cases hx
        | some y =>
          rw [hy] at hx
          obtain rfl := Option.some.inj hx
          obtain ⟨f1, f2, _⟩ := fixK_fields fs y
          rw [f1, f2]
          have hm : (y.o, y.i) ∈ L0.map (fun x => (x.o, x.i)) := List.mem_map.2 ⟨y, List.mem_of_getElem? hy, rfl⟩
          rw [hl] at hm
          obtain ⟨i, _, h2⟩ := List.mem_filterMap.1 hm
          cases hq : ops.toList[i]? with
          | none => rw [hq] at h2; cases h2
          | some o =>
            rw [hq] at h2
            simp only [Option.map_some] at h2
            injection h2 with h2
            injection h2 with e1 e2
            subst e1 e2
            exact hq
      · intro i hi
        have := List.all_eq_true.1 hcov i (by simpa using hi)
        obtain ⟨x, hx, hxi⟩ := List.any_eq_true.1 this
        obtain ⟨p, hp⟩ := List.getElem?_of_mem hx
        exact ⟨p, x, hp, by simpa using hxi⟩
      · intro p x hx
        have hx0 := hx
        rw [List.getElem?_map] at hx
        cases hy : L0[p]? with
        | none => rw [hy] at hx; cases hx
        | some y =>
          rw [hy] at hx
          obtain rfl := Option.some.inj hx
          obtain ⟨f1, f2, f3, f4, f5⟩ := fixK_fields fs y
          obtain ⟨g1, g2⟩ := hcmp p y hy
          rw [List.append_nil] at g1 g2
          rw [dsAt_fix, f2, f3, f4]
          refine ⟨g1, ?_⟩
          rcases g2 with ⟨g2, g3⟩ | ⟨g2, g3⟩
          · refine .inl ⟨g2, ?_⟩
            rcases f5 with f5 | ⟨_, f5⟩
            · exact .inl (by rw [f5, g3])
            · exact .inr f5
          · refine .inr ⟨g2, ?_, ?_⟩
            · rcases f5 with f5 | ⟨f5, _⟩
              · rw [f5, g3]
              · exfalso
                rw [g3] at f5
                unfold kindD at f5
                cases hV : y.op.denV with
                | some f =>
                  rw [hV] at f5
                  simp only at f5
                  rcases memK_01 y.op with h | h <;> omega
                | none =>
                  rw [hV] at f5
                  simp only at f5
                  cases hH : y.op.denH with
                  | some f => rw [hH] at f5; simp at f5
                  | none =>
                    rw [hH] at f5
                    simp only at f5
                    split at f5 <;> omega
            · have := List.all_eq_true.1 hk3 _ (List.mem_of_getElem? hx0)
              simpa using this
      · intro p x hx
        have : ((L0.map (fixK fs)).map fun x => ((⟨x.op, x.g⟩ : AOper), x.k == 4))[p]? = some (⟨x.op, x.g⟩, x.k == 4) := by rw [List.getElem?_map, hx]; rfl
        obtain ⟨s, h1, h2⟩ := hget p _ _ this
        exact ⟨s, h1, h2⟩
    unfold kDraw
    have hnx : Nat.add h0.nx ((L0.map (fixK fs)).filter fun x => x.k == 4).length = h0.nx + ((L0.map (fixK fs)).filter fun x => x.k == 4).length := rfl
    rw [hnx]
    rcases stepsD_run (rc := rc) (tm := tm) (base := h0.nx) (nf := ((L0.map (fixK fs)).filter fun x => x.k == 4).length) (K := finD (keep.map fun s => lastD s ((L0.map (fixK fs)).reverse.map fun x => x.o.dst) 0)
        (cfOf (befs ops.toList []) (L0.map (fixK fs)).length (L0.map (fixK fs)).zipIdx) tm fx) LD ⟨h0.o, h0.nx + ((L0.map (fixK fs)).filter fun x => x.k == 4).length⟩ with hb | ⟨v, hh, evs, h00, hrun, he⟩
    · rw [hb]; trivial
    rw [he]
    simp only [finD]
    cases hchk : checkD evs (cfOf (befs ops.toList []) (L0.map (fixK fs)).length (L0.map (fixK fs)).zipIdx) with
    | false => trivial
    | true =>
    simp only
    cases hset : setD (envOf v LD.length) (keep.map fun s => lastD s ((L0.map (fixK fs)).reverse.map fun x => x.o.dst) 0) tm with
    | none => trivial
    | some tm' =>
    simp only
    let C : DC := ⟨S, keep, nt, ops.toList, L0.map (fixK fs), LD, rc, tm, ((L0.map (fixK fs)).filter fun x => x.k == 4).length, v, hh, evs, ρ0, h0, w0, a0⟩
    have hLD : LD.length = (L0.map (fixK fs)).length := by simpa using hlen
    have R : DRun C := by
      refine ⟨d, hS, hrc, hrun, ?_, h00, st.tm, st.sz, ?_⟩
      · show ((L0.map (fixK fs)).filter fun x => x.k == 4).length = kF LD (L0.map (fixK fs)).length
        have key : ∀ m, m ≤ (L0.map (fixK fs)).length → kF LD m = (((L0.map (fixK fs)).take m).filter fun x => x.k == 4).length := by
          intro m
          induction m with
          | zero => intro _; simp [kF]
          | succ m ih =>
            intro hm
            have hx : (L0.map (fixK fs))[m]? = some ((L0.map (fixK fs))[m]'(by omega)) := List.getElem?_eq_getElem (by omega)
            obtain ⟨s, h1, h2⟩ := d.knd hx
            rw [kF_succ h1, h2.isF, ih (by omega), List.take_add_one, hx]
            simp only [Option.toList_some, List.filter_append, List.length_append]
            generalize (L0.map (fixK fs))[m]'(by omega) = y
            cases hq : y.k == 4 with
            | true => simp [List.filter_cons, hq]
            | false => simp only [List.filter_cons, hq, List.filter_nil, List.length_nil, Bool.false_eq_true, if_false, Nat.add_zero]
        rw [key _ (Nat.le_refl _), List.take_length]
      · intro p q x y hx hy hk1 hk2 ho1 ho2
        have hpl : p < (L0.map (fixK fs)).length := d.lt hx
        have hql : q < (L0.map (fixK fs)).length := d.lt hy
        have hm : ((L0.map (fixK fs)).length - 1 - p, (L0.map (fixK fs)).length - 1 - q) ∈ cfOf (befs ops.toList []) (L0.map (fixK fs)).length (L0.map (fixK fs)).zipIdx := by
          unfold cfOf
          refine List.mem_flatMap.2 ⟨(x, p), ?_, ?_⟩
          · rw [List.mem_zipIdx_iff_getElem?]; exact hx
          · simp only [hk1, beq_self_eq_true, if_true]
            refine List.mem_filterMap.2 ⟨(y, q), ?_, ?_⟩
            · rw [List.mem_zipIdx_iff_getElem?]; exact hy
            · simp only
              have ho1' : ordB (befs ops.toList []) x.i y.i = false := ho1
              have ho2' : ordB (befs ops.toList []) y.i x.i = false := ho2
              simp [hk2, ho1', ho2']
        obtain ⟨r, wv, h1, h2, h3, h4⟩ := checkD_get hchk _ _ hm
        rw [← hLD] at h1 h2
        rw [hrun.evs p (by omega)] at h1
        rw [hrun.evs q (by omega)] at h2
        obtain rfl := Option.some.inj h1
        obtain rfl := Option.some.inj h2
        exact ⟨h3, h4⟩
    obtain ⟨r0, x0⟩ := st.hr.reserve C.nf
    have stw := st_region_draw (P := S.P) (b := b) (a := a0) (k := k) (cs := cs) (w := w0) (ops := ops) (id := id)
    have hsch : Region.schedule (S.P.follows .mixedOrders) ops (w0.tape w0.drawn (.order b.fn id)) = Region.linearise.go .any ops ops.size (w0.tape w0.drawn (.order b.fn id)) (Array.replicate ops.size false) [] := by
      rw [hS.mixed]; rfl
    rw [hsch] at stw
    have hD0 : (fun i => (Array.replicate ops.size false).getD i false) = fun _ => false := by
      funext i
      simp only [Array.getD_eq_getD_getElem?, Array.getElem?_replicate]
      split <;> rfl
    have hnone : ∀ (p : Nat) (x : DI), C.L[p]? = some x → x.k = 4 → ρ0 (C.rid p) = none := by
      intro p x hx hk
      cases hq : ρ0 (C.rid p) with
      | none => rfl
      | some pl =>
        have h1 := (st.hr.bound _ _ hq).1
        have h2 : h0.nx ≤ C.rid p := Nat.le_add_right _ _
        omega
    have I0 : DPre C (fun _ => false) 0 ρ0 a0 { w0 with drawn := w0.drawn + 1 } := by
      refine ⟨Nat.zero_le _, fun _ _ _ _ _ => rfl, (fun p x h => by omega), ⟨fun j o _ h => by cases h⟩, ?_, st.gl, ?_, ?_, st.sz, rfl, (fun _ _ _ _ h => by cases h), fun _ _ => rfl, fun p x hx hk _ => hnone p x hx hk,
        (fun _ _ _ _ _ h => by cases h), (fun p q x y pl pl' _ _ _ hx _ hk _ h => by rw [hnone p x hx hk] at h; cases h)⟩
      · show HR S ρ0 (hh 0) _
        rw [h00]; exact r0.drawn _
      · show Ext ρ0 h0 w0 ρ0 (hh 0) _
        rw [h00]; exact x0.drawn _
      · show h0.nx + C.nf ≤ (hh 0).nx
        rw [h00]; exact Nat.le_refl _
    obtain ⟨t1, _, I1⟩ := I0.inv R _ rfl
    obtain ⟨t', ρ', a', w', D', hall, I2, s2⟩ := sched_ok R b k cs ops.size (w0.tape w0.drawn (.order b.fn id)) (Array.replicate ops.size false) t1 ρ0 a0 _ (by show (Array.replicate ops.size false).size = ops.toList.length; simp) (by
      rw [hD0]
      have : ∀ n, cntD (fun _ => false) n = n := by
        intro n
        induction n with
        | zero => rfl
        | succ n ih => simp [cntD, ih]
      rw [this]; show ops.toList.length = ops.size; simp) (by rw [hD0]; exact I1)
    have hexec : ∀ (p : Nat) (x : DI), (L0.map (fixK fs))[p]? = some x → D' x.i = true := by
      intro p x hx
      exact hall x.i (List.getElem?_eq_some_iff.1 (d.src p x hx)).1
    have ht : t' = (L0.map (fixK fs)).length := by
      have h1 : t' ≤ (L0.map (fixK fs)).length := I2.1.tle
      rcases Nat.lt_or_ge t' (L0.map (fixK fs)).length with h | h
      · obtain ⟨x, hx, hk⟩ := I2.2 h
        have := I2.1.tA t' x (Nat.le_refl _) hx hk
        rw [hexec t' x hx] at this; cases this
      · omega
    subst ht
    rw [hLD]
    have hdsL : (L0.map (fixK fs)).reverse.map (fun x => x.o.dst) = dsAt (L0.map (fixK fs)) (L0.map (fixK fs)).length := by
      unfold dsAt
      rw [List.take_length, List.map_reverse]
    have htm : TMR ρ' a'.tmps keep tm' := by
      rw [hdsL] at hset
      refine setD_ok (ρ := ρ0) (tmps := a0.tmps) ?_ ?_ st.tm hset
      · intro s j u hj hu hs
        obtain ⟨q, x, hq, hjq, hx, hxs, hno⟩ := last_at (Nat.le_refl _) hj
        rw [hLD, hjq, envOf_get v hq] at hu
        obtain rfl := Option.some.inj hu
        have h1 := I2.1.last s q x hx (hexec q x hx) hxs fun r z hqr hz hzs => by
          exact absurd hzs (hno r z hqr (d.lt hz) hz)
        refine ⟨?_, h1⟩
        have e1 : a'.tmps.size = nt := I2.1.sz
        rw [e1, ← st.sz]; exact hs
      · intro s u hj hu
        have h1 := I2.1.non s fun q x hx hxs => absurd hxs (last_none (Nat.le_refl _) hj q x (d.lt hx) hx)
        refine ⟨?_, ?_⟩
        · have e1 : a'.tmps.size = nt := I2.1.sz
          rw [e1, ← st.sz]; exact hu.1
        · show VRel ρ' u (a'.tmps.getD s undef)
          rw [h1]
          exact hu.2.mono I2.1.ext.le
    have hle : ρ0.le ρ' := I2.1.ext.le
    have st' : StR S keep nt b ρ' a' cs w' tm' fx (hh (L0.map (fixK fs)).length) :=
      ⟨I2.1.hr, st.gl.mono hle, htm, I2.1.sz, by have e := I2.1.dfr; show DefsR ρ' fx.ds a'.defers; rw [e]; exact st.ds.mono hle, st.up.mono hle, st.rd.mono hle, st.fn⟩
    exact ⟨ρ', a', cs, w', .same _ _, st', I2.1.ext, (Steps.head stw s2).trans (.one st_region_end)⟩

theorem cdraw_ok : DrawOk := by
  intro S keep nt id ops hdst
  unfold cdraw
  split
  · exact bad_ok'
  simp only
  split
  · exact drawD_ok hdst
  · exact drawD_ok hdst
end Go.Ai

namespace Go.Ai
open Go

theorem VRel.gr_inv' {ρ : Rho} {b o n q : Nat} {v : Value} (h : VRel ρ (.slice b o n (.gr q)) v) : ∃ c pl, ρ b = some pl ∧ pl.es = q ∧ pl.sh + o + c * pl.es = pl.sz ∧ n ≤ c ∧ v = .slice (some ⟨pl.blk, pl.sh + o, none⟩) n c := by
  generalize ha : AVal.slice b o n (.gr q) = a at h
  cases h <;> cases ha
  exact ⟨_, _, by assumption, rfl, by assumption, by assumption, rfl⟩
theorem VRel.ex_inv' {ρ : Rho} {b o n q : Nat} {v : Value} (h : VRel ρ (.slice b o n (.ex q)) v) : ∃ pl, ρ b = some pl ∧ v = .slice (some ⟨pl.blk, pl.sh + o, none⟩) n q := by
  generalize ha : AVal.slice b o n (.ex q) = a at h
  cases h <;> cases ha
  exact ⟨_, by assumption, rfl⟩
theorem FnR.back {ρ ρ' : Rho} (hl : ρ.le ρ') {f g g' : Fn} (h : FnR ρ f g) (h' : FnR ρ' f g') : FnR ρ f g' := by
  cases h with
  | func f => cases h'; exact .func f
  | yield l pl hl1 =>
    cases h' with
    | yield _ pl' hl2 =>
      obtain rfl : pl = pl' := Option.some.inj ((hl _ _ hl1).symm.trans hl2)
      exact .yield l pl hl1
mutual
theorem VRel.back {ρ ρ' : Rho} (hl : ρ.le ρ') : ∀ {a : AVal} {v u : Value}, VRel ρ a v → VRel ρ' a u → VRel ρ a u
  | _, _, _, .bool b, h => by cases h; exact .bool b
  | _, _, _, .int k n, h => by cases h; exact .int k n
  | _, _, _, .str s, h => by
    obtain ⟨b, rfl, hb⟩ := h.str_inv
    rw [← hb]; exact .str b
  | _, _, _, .ptr b o pl hp, h => by
    obtain ⟨pl', h1, rfl⟩ := h.ptr_inv
    obtain rfl : pl = pl' := Option.some.inj ((hl _ _ hp).symm.trans h1)
    exact .ptr b o pl hp
  | _, _, _, .nilptr, h => by cases h; exact .nilptr
  | _, _, _, .slice b o n c pl hp, h => by
    obtain ⟨pl', h1, rfl⟩ := h.ex_inv'
    obtain rfl : pl = pl' := Option.some.inj ((hl _ _ hp).symm.trans h1)
    exact .slice b o n c pl hp
  | _, _, _, .sliceG b o n c pl hp h1 h2, h => by
    obtain ⟨c', pl', h3, h4, h5, h6, rfl⟩ := h.gr_inv'
    obtain rfl : pl = pl' := Option.some.inj ((hl _ _ hp).symm.trans h3)
    exact .sliceG b o n c' pl hp h5 h6
  | _, _, _, .emp a c, h => by cases h; exact .emp _ _
  | _, _, _, .nils, h => by cases h; exact .nils
  | _, _, _, .map r pl hp, h => by
    cases h with
    | map _ pl' h1 =>
      obtain rfl : pl = pl' := Option.some.inj ((hl _ _ hp).symm.trans h1)
      exact .map r pl hp
  | _, _, _, .nilmap, h => by cases h; exact .nilmap
  | _, _, _, .func fn fn' a c a' c' h1 h2 h3, h => by
    cases h with
    | func _ gn _ _ b d g1 g2 g3 => exact .func _ _ _ _ _ _ (h1.back hl g1) (VRels.back hl h2 g2) (VRels.back hl h3 g3)
  | _, _, _, .nilfunc, h => by cases h; exact .nilfunc
  | _, _, _, .iface t v v' h1, h => by
    cases h with
    | iface _ _ u g1 => exact .iface _ _ _ (VRel.back hl h1 g1)
  | _, _, _, .nilif, h => by cases h; exact .nilif
  | _, _, _, .agg l l' h1 h2, h => by
    cases h with
    | agg _ u g1 g2 => exact .agg _ _ (VRels.back hl h1 g1) g2
  | _, _, _, .tup l l' h1, h => by
    cases h with
    | tup _ u g1 => exact .tup _ _ (VRels.back hl h1 g1)
theorem VRels.back {ρ ρ' : Rho} (hl : ρ.le ρ') : ∀ {a : List AVal} {v u : List Value}, VRels ρ a v → VRels ρ' a u → VRels ρ a u
  | _, _, _, .nil, h => by cases h; exact .nil
  | _, _, _, .cons a l a' l' h1 h2, h => by
    cases h with
    | cons _ _ b m g1 g2 => exact .cons _ _ _ _ (VRel.back hl h1 g1) (VRels.back hl h2 g2)
end
theorem EntR.back {ρ ρ' : Rho} (hl : ρ.le ρ') : ∀ {a : List (AVal × AVal × Nat)} {v u : List MapEntry}, EntR ρ a v → EntR ρ' a u → EntR ρ a u
  | _, _, _, .nil, h => by cases h; exact .nil
  | _, _, _, .cons k v s l k' v' l' h1 h2 h3, h => by
    cases h with
    | cons _ _ _ _ k2 v2 l2 g1 g2 g3 => exact .cons _ _ _ _ _ _ _ (h1.back hl g1) (h2.back hl g2) (EntR.back hl h3 g3)

theorem strsEq_eq : ∀ {a b : List AVal}, strsEq a b = true → a = b ∧ ∀ x ∈ a, ∃ s, x = .str s
  | [], b, h => by
    cases b with
    | nil => exact ⟨rfl, fun x h => by cases h⟩
    | cons => simp [strsEq] at h
  | x :: a, b, h => by
    cases b with
    | nil => cases x <;> simp [strsEq] at h
    | cons y b =>
      cases x <;> cases y <;> simp only [strsEq] at h <;> try cases h
      rename_i s s'
      split at h
      · rename_i hs
        obtain ⟨h1, h2⟩ := strsEq_eq h
        rw [lEq_true _ _ hs, h1]
        refine ⟨rfl, fun x hx => ?_⟩
        rcases List.mem_cons.1 hx with rfl | hx
        · exact ⟨_, rfl⟩
        · exact h2 x (h1 ▸ hx)
      · cases h
theorem SM.kept_eq {s : SM} {h : H} (hk : s.kept h = true) : h.get s.b = some (.cells [.map s.r] s.el s.es .own s.fz) ∧ h.get s.r = some (.map s.ents s.clock) := by
  unfold SM.kept at hk
  split at hk
  · rename_i r el es fz hb
    split at hk
    · rename_i hc
      simp only [Bool.and_eq_true, beq_iff_eq] at hc
      split at hk
      · rename_i ents clock hr
        split at hk
        · rename_i hcl
          have e1 := Nat.eq_of_beq_eq_true hc.1
          have e2 := Nat.eq_of_beq_eq_true hc.2.1
          have e3 := Nat.eq_of_beq_eq_true hc.2.2.1
          have e4 := Nat.eq_of_beq_eq_true hcl
          rw [hb, hr, e1, e2, e3, hc.2.2.2, e4, sameEnt_eq hk]
          exact ⟨rfl, rfl⟩
        · cases hk
      · cases hk
    · cases hk
  · cases hk
theorem SM.get (s : SM) (nx b : Nat) : (s.h nx).get b = if s.r = b then some (.map s.ents s.clock) else if s.b = b then some (.cells [.map s.r] s.el s.es .own s.fz) else none := by
  show ((PT.nil.set s.b _).set s.r _).get b = _
  rw [get_set]
  split
  · rfl
  · rw [get_set]
    split
    · rfl
    · show PT.nil.getP (bits b) = none
      exact getP_nil _

variable {S : Stat} {ρ ρ' : Rho} {h h1 : H} {w w' : World}
theorem smallA_get {args : List AVal} {s : SM} (hs : smallA args h = some s) : h.get s.b = some (.cells [.map s.r] s.el s.es .own s.fz) ∧ h.get s.r = some (.map s.ents s.clock) ∧ ∃ f, args = [.func (.func f) [] [.ptr s.b 0]] := by
  unfold smallA at hs
  split at hs
  · rename_i f b
    split at hs
    · rename_i r el es fz hb
      split at hs
      · rename_i ents clock hr
        obtain rfl := Option.some.inj hs
        exact ⟨hb, hr, f, rfl⟩
      · cases hs
    · cases hs
  · cases hs
theorem HR.small (r : HR S ρ h w) {s : SM} (hb : h.get s.b = some (.cells [.map s.r] s.el s.es .own s.fz)) (hr : h.get s.r = some (.map s.ents s.clock)) : HR S ρ (s.h h.nx) w := by
  have sub : ∀ b x, (s.h h.nx).get b = some x → h.get b = some x := by
    intro b x hx
    rw [SM.get] at hx
    split at hx
    · rename_i e; rw [← e, hr]; exact hx
    · split at hx
      · rename_i e; rw [← e, hb]; exact hx
      · cases hx
  exact ⟨r.bound, fun b pl x h1 h2 => r.obj b pl x h1 (sub _ _ h2), fun b b' pl pl' x x' h1 h2 h3 h4 => r.inj b b' pl pl' x x' h1 h2 (sub _ _ h3) (sub _ _ h4), fun b x hx => r.live b x (sub _ _ hx)⟩
theorem HR.back (r : HR S ρ h w) {s : SM} (hb : h.get s.b = some (.cells [.map s.r] s.el s.es .own s.fz)) (hr : h.get s.r = some (.map s.ents s.clock)) (r1 : HR S ρ' h1 w') (x1 : Ext ρ (s.h h.nx) w ρ' h1 w') (hk : s.kept h1 = true) :
    HR S ρ h w' ∧ Ext ρ h w ρ h w' := by
  obtain ⟨k1, k2⟩ := SM.kept_eq hk
  have hne : s.b ≠ s.r := by
    intro e
    rw [e, hr] at hb; cases hb
  have imgS : ∀ cb, Img ρ (s.h h.nx) cb → ∃ b pl x, ρ b = some pl ∧ h.get b = some x ∧ ¬ isRO x ∧ pl.blk = cb ∧ (b = s.b ∨ b = s.r) := by
    rintro cb ⟨b, pl, x, g1, g2, g3, g4⟩
    rw [SM.get] at g2
    split at g2
    · rename_i e; subst e
      exact ⟨_, pl, x, g1, by rw [hr]; exact g2, g3, g4, .inr rfl⟩
    · split at g2
      · rename_i e; subst e
        exact ⟨_, pl, x, g1, by rw [hb]; exact g2, g3, g4, .inl rfl⟩
      · cases g2
  refine ⟨⟨?_, ?_, r.inj, r.live⟩, ⟨Rho.le_refl ρ, Nat.le_refl _, x1.size, x1.os, x1.out, ?_, fun _ h => .inl h, fun _ h => .inl h, fun _ _ h => .inl h⟩⟩
  · intro b pl hb'
    have := r.bound b pl hb'
    exact ⟨this.1, Nat.lt_of_lt_of_le this.2 x1.size⟩
  · intro b pl x hb' hx
    by_cases eb : b = s.b
    · subst eb
      obtain ⟨o, ho, hoR⟩ := r.obj _ _ _ hb' hx
      obtain ⟨o', ho', hoR'⟩ := r1.obj _ _ _ (x1.le _ _ hb') k1
      rw [hb] at hx
      obtain rfl := Option.some.inj hx
      obtain ⟨c, lo, hi, e1, e2, e3, e4, e5⟩ := hoR
      obtain ⟨c', lo', hi', f1, f2, f3, f4, f5⟩ := hoR'
      refine ⟨o', ho', c', lo', hi', f1, f2, f3, ?_, f5⟩
      intro i z hz
      obtain ⟨v, g1, g2, g3⟩ := e4 i z hz
      obtain ⟨u, g4, g5, g6⟩ := f4 i z hz
      exact ⟨u, g4, g5, g3.back x1.le g6⟩
    · by_cases er : b = s.r
      · subst er
        obtain ⟨o, ho, hoR⟩ := r.obj _ _ _ hb' hx
        obtain ⟨o', ho', hoR'⟩ := r1.obj _ _ _ (x1.le _ _ hb') k2
        rw [hr] at hx
        obtain rfl := Option.some.inj hx
        obtain ⟨es, e1, e2⟩ := hoR
        obtain ⟨es', f1, f2⟩ := hoR'
        exact ⟨o', ho', es', f1, e2.back x1.le f2⟩
      · obtain ⟨o, ho, hoR⟩ := r.obj _ _ _ hb' hx
        refine ⟨o, ?_, hoR⟩
        rw [x1.frame pl.blk (r.bound _ _ hb').2]
        · exact ho
        · intro hi
          obtain ⟨b2, p2, x2, g1, g2, g3, g4, g5⟩ := imgS _ hi
          have hne2 : b2 ≠ b := by
            rintro rfl
            rcases g5 with e | e
            · exact eb e
            · exact er e
          exact g3 (r.inj b2 b p2 pl x2 x g1 hb' g2 hx hne2 g4).1
  · intro cb hlt hn
    rw [x1.frame cb hlt]
    intro hi
    obtain ⟨b2, p2, x2, g1, g2, g3, g4, _⟩ := imgS _ hi
    exact hn ⟨b2, p2, x2, g1, g2, g3, g4⟩
theorem HR.addNew (r : HR S ρ h w) {pl : Place} {x : AObj} {o : Obj} (ho : w.heap[pl.blk]? = some o) (hx : ObjR S (ρ.with h.nx pl) x pl o) (hl : ∀ b p, ρ b = some p → p.blk ≠ pl.blk) : HR S (ρ.with h.nx pl) (h.new x) w := by
  have hle := r.le_with pl
  refine ⟨?_, ?_, ?_, ?_⟩
  · intro b p hb
    unfold Rho.with at hb
    rw [nx_new]
    split at hb
    · rename_i e; subst e
      obtain rfl := Option.some.inj hb
      exact ⟨by omega, (Array.getElem?_eq_some_iff.1 ho).1⟩
    · have := r.bound _ _ hb; exact ⟨by omega, this.2⟩
  · intro b p y hb hy
    rw [get_new] at hy
    unfold Rho.with at hb
    split at hb
    · rename_i e; subst e
      rw [if_pos rfl] at hy
      obtain rfl := Option.some.inj hb
      obtain rfl := Option.some.inj hy
      exact ⟨o, ho, hx⟩
    · rename_i e
      rw [if_neg (fun e' => e e'.symm)] at hy
      obtain ⟨o', ho', hr⟩ := r.obj _ _ _ hb hy
      exact ⟨o', ho', hr.mono hle⟩
  · intro b1 b2 p1 p2 y1 y2 g1 g2 g3 g4 hne he
    rw [get_new] at g3 g4
    unfold Rho.with at g1 g2
    split at g1 <;> split at g2
    · rename_i e1 e2; exact absurd (e1.trans e2.symm) hne
    · obtain rfl := Option.some.inj g1
      exact absurd he.symm (hl _ _ g2)
    · obtain rfl := Option.some.inj g2
      exact absurd he (hl _ _ g1)
    · rename_i e1 e2
      rw [if_neg (fun e => e1 e.symm)] at g3
      rw [if_neg (fun e => e2 e.symm)] at g4
      exact r.inj _ _ _ _ _ _ g1 g2 g3 g4 hne he
  · intro b y hy
    rw [get_new] at hy
    rw [nx_new]
    split at hy
    · omega
    · have := r.live _ _ hy; omega
theorem Ext.addNew {ρ0 : Rho} {h0 : H} {w0 : World} (x : Ext ρ0 h0 w0 ρ h w) (r : HR S ρ h w) {pl : Place} (y : AObj) (hlt : w0.heap.size ≤ pl.blk) : Ext ρ0 h0 w0 (ρ.with h.nx pl) (h.new y) w := by
  refine ⟨Rho.le_trans x.le (r.le_with pl), by rw [nx_new]; have := x.nx; omega, x.size, x.os, x.out, x.frame, ?_, ?_, ?_⟩
  · rintro cb ⟨b, p, z, g1, g2, g3, g4⟩
    rw [get_new] at g2
    unfold Rho.with at g1
    split at g1
    · obtain rfl := Option.some.inj g1; exact .inr (g4 ▸ hlt)
    · rename_i e
      rw [if_neg (fun e' => e e'.symm)] at g2
      exact x.img cb ⟨b, p, z, g1, g2, g3, g4⟩
  · rintro cb ⟨b, p, z, g1, g2, g4⟩
    rw [get_new] at g2
    unfold Rho.with at g1
    split at g1
    · obtain rfl := Option.some.inj g1; exact .inr (g4 ▸ hlt)
    · rename_i e
      rw [if_neg (fun e' => e e'.symm)] at g2
      exact x.liv cb ⟨b, p, z, g1, g2, g4⟩
  · intro b p g1
    unfold Rho.with at g1
    split at g1
    · rename_i e; subst e; exact .inr x.nx
    · exact x.new _ _ g1

theorem sameRows_get {s : SM} {nx n el : Nat} {b : List AVal} : ∀ {l : List Out}, sameRows s nx b n el l = true → ∀ o ∈ l, ∃ i h cs, o = .ret (.slice i 0 n (.gr 1)) none h ∧ h.get i = some (.cells cs el 1 .grow false) ∧ nx ≤ i ∧ cs = b ∧ (∀ x ∈ cs, ∃ s, x = .str s) ∧ s.kept h = true
  | [], _, o, ho => by cases ho
  | o' :: l, hr, o, ho => by
    unfold sameRows at hr
    split at hr
    · rename_i heq; cases heq
    · rename_i i n' h l' heq
      injection heq with e1 e2
      subst e1 e2
      split at hr
      · rename_i hn
        split at hr
        · rename_i cs el' hg
          split at hr
          · rename_i hc
            simp only [Bool.and_eq_true] at hc
            have e1 := Nat.eq_of_beq_eq_true hc.1
            have e2 := Nat.le_of_ble_eq_true hc.2.1
            obtain ⟨e3, e4⟩ := strsEq_eq hc.2.2.1
            have e5 := Nat.eq_of_beq_eq_true hn
            rcases List.mem_cons.1 ho with rfl | ho
            · exact ⟨i, h, cs, by rw [e5], by rw [hg, e1], e2, e3, e4, hc.2.2.2⟩
            · exact sameRows_get hr o ho
          · cases hr
        · cases hr
      · cases hr
    · cases hr

theorem VRel.str_any {ρ ρ' : Rho} {s : List Nat} {v : Value} (h : VRel ρ (.str s) v) : VRel ρ' (.str s) v := by
  obtain ⟨b, rfl, rfl⟩ := h.str_inv
  exact .str b

theorem mrg_ok {AP : AProg} : MrgOk S AP := by
  intro n hrc f F k pads res _ hf args h s ρ w args' hs r g hv fr cs
  obtain ⟨hb, hr, _⟩ := smallA_get hs
  have rs := r.small hb hr
  obtain ⟨hcall, hout⟩ := frame_ok (m := n) hrc hf rs g hv (up := none) (kind := .normal) (cs := fr :: cs) rfl
  generalize frameA (evalA AP n) n F k pads res args none (s.h h.nx) = R at hout
  unfold mergeA
  have hmem : ∀ l, R.toL = some l → ∃ o ∈ l, LvR S ⟨f, .normal, none⟩ (fr :: cs) ρ (s.h h.nx) w (lone (Frame.enter S.P f args'.toArray .normal) (fr :: cs) w) o := by
    intro l hl
    cases R with
    | bad => cases hl
    | one o => obtain rfl := Option.some.inj hl; exact ⟨o, by simp, hout⟩
    | many l' => obtain rfl := Option.some.inj hl; exact hout
  split
  case h_2 => trivial
  rename_i o l hl
  obtain ⟨o', ho', hLv⟩ := hmem _ hl
  split
  · rename_i i0 n0 h0
    split
    case h_2 => trivial
    rename_i cs0 el0 hg0
    split
    case h_2 => trivial
    rename_i hsame
    obtain ⟨i, h1, cs1, rfl, hg1, hnx, rfl, hstr, hkept⟩ := sameRows_get hsame o' ho'
    have hN := LvR.callN (hcall w) hLv
    obtain ⟨m, ρ', w', haft, v', hvr, r1, x1, st⟩ := hN
    obtain ⟨rb, xb⟩ := r.back hb hr r1 x1 hkept
    obtain ⟨c, pl, hpl, hes, hsz, hle, rfl⟩ := hvr.gr_inv'
    obtain ⟨o1, ho1, hoR⟩ := r1.obj _ _ _ hpl hg1
    obtain ⟨k1, k2⟩ := SM.kept_eq hkept
    have hnew : w.heap.size ≤ pl.blk := by
      rcases x1.liv pl.blk ⟨i, pl, _, hpl, hg1, rfl⟩ with ⟨b2, p2, y2, g1, g2, g3⟩ | h
      · exfalso
        have hb2 : b2 < h.nx := (r.bound _ _ g1).1
        have hnr : ¬ isRO y2 ∧ h1.get b2 = some y2 := by
          rw [SM.get] at g2
          split at g2
          · rename_i e; subst e
            obtain rfl := Option.some.inj g2
            exact ⟨by simp [isRO], k2⟩
          · split at g2
            · rename_i e; subst e
              obtain rfl := Option.some.inj g2
              exact ⟨by simp [isRO], k1⟩
            · cases g2
        exact hnr.1 (r1.inj b2 i p2 pl y2 _ (x1.le _ _ g1) hpl hnr.2 hg1 (by omega) g3).1
      · exact h
    have hobj : ObjR S (ρ.with h.nx pl) (.cells cs1 el0 1 .grow false) pl o1 := by
      obtain ⟨cc, lo, hi, e1, e2, e3, e4, e5⟩ := hoR
      refine ⟨cc, lo, hi, e1, e2, e3, ?_, e5⟩
      intro j z hz
      obtain ⟨u, g1, g2, g3⟩ := e4 j z hz
      obtain ⟨sz, rfl⟩ := hstr z (List.mem_of_getElem? hz)
      exact ⟨u, g1, g2, g3.str_any⟩
    have r2 := rb.addNew ho1 hobj (fun b p hbp => by have := (r.bound _ _ hbp).2; omega)
    have x2 := xb.addNew rb (.cells cs1 el0 1 .grow false) hnew
    have hv2 : VRel (ρ.with h.nx pl) (.slice h.nx 0 n0 (.gr 1)) (.slice (some ⟨pl.blk, pl.sh + 0, none⟩) n0 c) := by
      have := VRel.sliceG (ρ := ρ.with h.nx pl) h.nx 0 n0 c pl (Rho.with_self _ _ _) hsz hle
      rw [hes] at this
      exact this
    exact ⟨m, _, w', haft, _, hv2, r2, x2, st⟩
  · rename_i h0
    split
    case h_2 => trivial
    split
    case h_2 => trivial
    rename_i hkept
    simp only [List.mem_singleton] at ho'
    subst ho'
    have hN := LvR.callN (hcall w) hLv
    obtain ⟨m, ρ', w', haft, v', hvr, r1, x1, st⟩ := hN
    obtain ⟨rb, xb⟩ := r.back hb hr r1 x1 hkept
    exact ⟨m, ρ, w', haft, v', by cases hvr; exact .nils, rb, xb, st⟩
  · trivial
end Go.Ai

namespace Go.Ai
open Go

structure FD where
  f : Nat
  n : Nat
  rest : List Nat
def FD.keep (d : FD) : List Nat := List.range d.n ++ d.rest
def FD.p0 (d : FD) : Nat := d.f + 1048576
def FD.rfs (P : Program) (d : FD) : List (Nat × (List Nat × Nat × Code × Code)) := match P.funcs[d.f]? with
  | some fn => match fn.body with
    | some b => (crfs d.p0 b).map fun x => (x.1, (d.keep, fn.ntmps, x.2.1, x.2.2))
    | none => []
  | none => []
def allRf (P : Program) (T : List FD) : List (Nat × (List Nat × Nat × Code × Code)) := T.flatMap (FD.rfs P)
def lookN {α : Type} (i : Nat) : List (Nat × α) → Option α
  | [] => none
  | (j, x) :: l => match Nat.beq i j with
    | true => some x
    | false => lookN i l
def statOf (P : Program) (T : List FD) : Stat := ⟨P, fun id => lookN id (allRf P T)⟩
def memN (a : Nat) : List Nat → Bool
  | [] => false
  | b :: l => match Nat.beq a b with
    | true => true
    | false => memN a l
def nodupN : List Nat → Bool
  | [] => true
  | a :: l => match memN a l with
    | true => false
    | false => nodupN l
theorem memN_eq {a : Nat} : ∀ {l : List Nat}, memN a l = false → a ∉ l
  | [], _ => by simp
  | b :: l, h => by
    simp only [memN] at h
    split at h
    · cases h
    · rename_i hb
      simp only [List.mem_cons, not_or]
      exact ⟨Nat.ne_of_beq_eq_false hb, memN_eq h⟩
theorem nodupN_eq : ∀ {l : List Nat}, nodupN l = true → l.Nodup
  | [], _ => List.nodup_nil
  | a :: l, h => by
    simp only [nodupN] at h
    split at h
    · cases h
    · rename_i hm
      exact List.nodup_cons.2 ⟨memN_eq hm, nodupN_eq h⟩
theorem lookN_mem {α : Type} : ∀ {l : List (Nat × α)}, (l.map (·.1)).Nodup → ∀ i x, (i, x) ∈ l → lookN i l = some x
  | [], _, i, x, h => by cases h
  | (j, y) :: l, hn, i, x, h => by
    rw [List.map_cons, List.nodup_cons] at hn
    simp only [lookN]
    rcases List.mem_cons.1 h with h1 | h1
    · injection h1 with e1 e2
      subst e1 e2
      rw [show Nat.beq i i = true from Nat.beq_refl i]
    · have : Nat.beq i j = false := by
        cases hq : Nat.beq i j with
        | false => rfl
        | true =>
          obtain rfl := Nat.eq_of_beq_eq_true hq
          exact absurd (List.mem_map.2 ⟨(i, x), h1, rfl⟩ : i ∈ l.map (·.1)) hn.1
      rw [this]
      exact lookN_mem hn.2 i x h1
theorem lookN_of {α : Type} {i : Nat} {x : α} : ∀ {l : List (Nat × α)}, lookN i l = some x → (i, x) ∈ l
  | [], h => by cases h
  | (j, y) :: l, h => by
    simp only [lookN] at h
    split at h
    · rename_i hb
      obtain rfl := Option.some.inj h
      rw [Nat.eq_of_beq_eq_true hb]; simp
    · exact List.mem_cons_of_mem _ (lookN_of h)

structure TabOk (P : Program) (T : List FD) : Prop where
  mixed : P.follows .mixedOrders = true
  ids : nodupN ((allRf P T).map (·.1)) = true
  keeps : ∀ d ∈ T, nodupN d.keep = true

def bodyOf (fn : Func) : Code := fn.body.getD .skip
def chkF (d : FD) (fn : Func) : Bool := fn.body.isSome && (!(fn.name == "runtime.NumGoroutine") && (Nat.ble d.n fn.ntmps && d.rest.all fun s => Nat.ble d.n s && Nat.blt s fn.ntmps))
structure FnFact (P : Program) (d : FD) (fn : Func) (F : CodeF) (res : List ARes) : Prop where
  get : P.funcs[d.f]? = some fn
  chk : chkF d fn = true
  res : cres P d.keep fn.results.toList = some res
  code : F = (ccode P d.keep fn.ntmps d.p0 (bodyOf fn)).den
theorem ff {P : Program} {d : FD} {fn : Func} {F : CodeF} {res : List ARes} (h : P.funcs[d.f]? = some fn) (e : (chkF d fn, cres P d.keep fn.results.toList, (ccode P d.keep fn.ntmps d.p0 (bodyOf fn)).den) = (true, some res, F)) : FnFact P d fn F res :=
  ⟨h, congrArg (·.1) e, congrArg (·.2.1) e, (congrArg (·.2.2) e).symm⟩
def rfDen (P : Program) (d : FD) (fn : Func) (id : Nat) : Option (CodeF × CodeF) := match lookN id (crfs d.p0 (bodyOf fn)) with
  | some z => some ((ccode P d.keep fn.ntmps (2 * id) z.1).den, (ccode P d.keep fn.ntmps (2 * id + 1) z.2).den)
  | none => none
structure RfFact (P : Program) (d : FD) (fn : Func) (id : Nat) (x : CodeF × CodeF) : Prop where
  get : P.funcs[d.f]? = some fn
  code : rfDen P d fn id = some x

section
variable {P : Program} {T : List FD}
theorem TabOk.sok (h : TabOk P T) : SOk (statOf P T) := by
  refine ⟨h.mixed, fun id keep nt x y hq => ?_⟩
  have hm := lookN_of hq
  obtain ⟨d, hd, hm⟩ := List.mem_flatMap.1 hm
  unfold FD.rfs at hm
  split at hm
  · split at hm
    · obtain ⟨z, _, hz⟩ := List.mem_map.1 hm
      injection hz with _ hz
      injection hz with hz _
      rw [← hz]
      exact nodupN_eq (h.keeps d hd)
    · cases hm
  · cases hm
theorem TabOk.look (h : TabOk P T) {d : FD} (hd : d ∈ T) {id : Nat} {x : List Nat × Nat × Code × Code} (hx : (id, x) ∈ d.rfs P) : (statOf P T).rfs id = some x :=
  lookN_mem (nodupN_eq h.ids) id x (List.mem_flatMap.2 ⟨d, hd, hx⟩)
theorem crfs_sub {c : Code} : ∀ {p : Nat} (x : Nat × Code × Code), x ∈ crfs p c → (∀ z ∈ crfs (2 * x.1) x.2.1, z ∈ crfs p c) ∧ (∀ z ∈ crfs (2 * x.1 + 1) x.2.2, z ∈ crfs p c) := by
  intro p
  fun_induction crfs p c with
  | case1 p _ _ _ a b ih2 ih1 =>
    intro x hx
    simp only [List.mem_append] at hx ⊢
    rcases hx with hx | hx
    · exact ⟨fun z hz => .inl ((ih2 x hx).1 z hz), fun z hz => .inl ((ih2 x hx).2 z hz)⟩
    · exact ⟨fun z hz => .inr ((ih1 x hx).1 z hz), fun z hz => .inr ((ih1 x hx).2 z hz)⟩
  | case2 p a b _ ih2 ih1 =>
    intro x hx
    simp only [List.mem_append] at hx ⊢
    rcases hx with hx | hx
    · exact ⟨fun z hz => .inl ((ih2 x hx).1 z hz), fun z hz => .inl ((ih2 x hx).2 z hz)⟩
    · exact ⟨fun z hz => .inr ((ih1 x hx).1 z hz), fun z hz => .inr ((ih1 x hx).2 z hz)⟩
  | case3 p _ a b ih2 ih1 =>
    intro x hx
    simp only [List.mem_append] at hx ⊢
    rcases hx with hx | hx
    · exact ⟨fun z hz => .inl ((ih2 x hx).1 z hz), fun z hz => .inl ((ih2 x hx).2 z hz)⟩
    · exact ⟨fun z hz => .inr ((ih1 x hx).1 z hz), fun z hz => .inr ((ih1 x hx).2 z hz)⟩
  | case4 p _ c ih => exact ih
  | case5 p c ih => exact ih
  | case6 p c ih => exact ih
  | case7 p _ _ a b ih2 ih1 =>
    intro x hx
    simp only [List.mem_cons, List.mem_append, List.cons_append] at hx ⊢
    rcases hx with rfl | hx | hx
    · exact ⟨fun z hz => .inr (.inl hz), fun z hz => .inr (.inr hz)⟩
    · exact ⟨fun z hz => .inr (.inl ((ih2 x hx).1 z hz)), fun z hz => .inr (.inl ((ih2 x hx).2 z hz))⟩
    · exact ⟨fun z hz => .inr (.inr ((ih1 x hx).1 z hz)), fun z hz => .inr (.inr ((ih1 x hx).2 z hz))⟩
  | case8 => intro x hx; cases hx
theorem chkF_ok {d : FD} {fn : Func} (h : chkF d fn = true) : fn.body = some (bodyOf fn) ∧ (fn.name == "runtime.NumGoroutine") = false ∧ d.n ≤ fn.ntmps ∧ ∀ s ∈ d.rest, d.n ≤ s ∧ s < fn.ntmps := by
  unfold chkF at h
  simp only [Bool.and_eq_true, List.all_eq_true, Nat.ble_eq, Nat.blt_eq, Bool.not_eq_true'] at h
  refine ⟨?_, h.2.1, h.2.2.1, h.2.2.2⟩
  unfold bodyOf
  cases hb : fn.body with
  | none => rw [hb] at h; cases h.1
  | some b => rfl
theorem TabOk.looks (h : TabOk P T) {d : FD} (hd : d ∈ T) {fn : Func} (hg : P.funcs[d.f]? = some fn) (hb : fn.body = some (bodyOf fn)) : ∀ y ∈ crfs d.p0 (bodyOf fn), (statOf P T).rfs y.1 = some (d.keep, fn.ntmps, y.2.1, y.2.2) := by
  intro y hy
  refine h.look hd ?_
  unfold FD.rfs
  rw [hg]
  simp only
  rw [hb]
  exact List.mem_map.2 ⟨y, hy, rfl⟩
theorem FnFact.ok (h : TabOk P T) {d : FD} (hd : d ∈ T) {fn : Func} {F : CodeF} {res : List ARes} (hf : FnFact P d fn F res) : FnOk (statOf P T) d.f F d.n (List.replicate d.rest.length (.tup [])) res := by
  obtain ⟨h1, h2, h4, rfl⟩ := hf
  obtain ⟨h3, h5, h6, h7⟩ := chkF_ok h2
  exact ⟨fn, bodyOf fn, d.rest, h1, h5, h3, h4, rfl, h6, h7, ccode_ok (S := statOf P T) cdraw_ok _ d.p0 (h.looks hd h1 h3) h.sok (nodupN_eq (h.keeps d hd))⟩
theorem RfFact.ok (h : TabOk P T) {d : FD} (hd : d ∈ T) {fn : Func} {id : Nat} {X : CodeF × CodeF} (hc : chkF d fn = true) (hf : RfFact P d fn id X) : ∀ keep nt x y, (statOf P T).rfs id = some (keep, nt, x, y) → CodeOk (statOf P T) keep nt x X.1 ∧ CodeOk (statOf P T) keep nt y X.2 := by
  obtain ⟨h1, h2⟩ := hf
  obtain ⟨h3, _⟩ := chkF_ok hc
  unfold rfDen at h2
  split at h2
  case h_2 => cases h2
  rename_i z hz
  obtain rfl := Option.some.inj h2
  have hm := lookN_of hz
  have look := h.looks hd h1 h3
  intro keep nt x y hq
  rw [look _ hm] at hq
  injection hq with hq
  injection hq with e1 hq
  injection hq with e2 hq
  injection hq with e3 e4
  subst e1 e2 e3 e4
  obtain ⟨s1, s2⟩ := crfs_sub _ hm
  exact ⟨ccode_ok (S := statOf P T) cdraw_ok _ _ (fun x hx => look x (s1 x hx)) h.sok (nodupN_eq (h.keeps d hd)), ccode_ok (S := statOf P T) cdraw_ok _ _ (fun x hx => look x (s2 x hx)) h.sok (nodupN_eq (h.keeps d hd))⟩
end

def memoL (l : List (Nat × Ent)) (f : Nat) : List Ent := match l with
  | [] => []
  | (g, e) :: r => match Nat.beq f g with
    | true => e :: memoL r f
    | false => memoL r f
theorem memoL_ok {S : Stat} : ∀ {l : List (Nat × Ent)}, (∀ x ∈ l, EntOk S x.1 x.2) → ∀ f, ∀ e ∈ memoL l f, EntOk S f e
  | [], _, f, e, h => by cases h
  | (g, e') :: r, hl, f, e, h => by
    simp only [memoL] at h
    have ih := memoL_ok (l := r) (fun x hx => hl x (List.mem_cons_of_mem _ hx)) f e
    split at h
    · rename_i hb
      obtain rfl := Nat.eq_of_beq_eq_true hb
      rcases List.mem_cons.1 h with rfl | h
      · exact hl _ (List.mem_cons_self ..)
      · exact ih h
    · exact ih h

section
variable {P : Program} {T : List FD}
def buildT {α : Type} : List (Nat × α) → PT α
  | [] => .nil
  | (i, x) :: l => (buildT l).set i (some x)
theorem buildT_get {α : Type} : ∀ {l : List (Nat × α)} {i : Nat} {x : α}, (buildT l).get i = some x → (i, x) ∈ l
  | [], i, x, h => by
    have : (PT.nil : PT α).getP (bits i) = some x := h
    rw [getP_nil] at this; cases this
  | (j, y) :: l, i, x, h => by
    simp only [buildT] at h
    rw [get_set] at h
    split at h
    · rename_i e; subst e
      obtain rfl := Option.some.inj h
      simp
    · exact List.mem_cons_of_mem _ (buildT_get h)
def XOk (P : Program) (T : List FD) (f : Nat) : XFn → Prop
  | .go F k pads res => ∃ d ∈ T, d.f = f ∧ d.n = k ∧ List.replicate d.rest.length (.tup []) = pads ∧ ∃ fn, FnFact P d fn F res
  | .mrg F k pads res => ∃ d ∈ T, d.f = f ∧ d.n = k ∧ List.replicate d.rest.length (.tup []) = pads ∧ ∃ fn, FnFact P d fn F res
  | .noEscape => NoEsc P f
  | .ext q => ExtFn (statOf P T) f q
  | .memo l F k pads res => (∃ d ∈ T, d.f = f ∧ d.n = k ∧ List.replicate d.rest.length (.tup []) = pads ∧ ∃ fn, FnFact P d fn F res) ∧ ∀ e ∈ l, EntOk (statOf P T) f e
theorem al {α : Type} {p : α → Prop} {a : α} {l : List α} (h : p a) (t : ∀ e ∈ l, p e) : ∀ e ∈ a :: l, p e := fun e he => (List.mem_cons.1 he).elim (fun h' => h' ▸ h) (t e)
theorem nl {α : Type} {p : α → Prop} : ∀ e ∈ ([] : List α), p e := fun _ h => by cases h
theorem xo {d : FD} {fn : Func} {F : CodeF} {res : List ARes} (t : FnFact P d fn F res) (h : (T.find? fun x => Nat.beq x.f d.f) = some d) : XOk P T d.f (.go F d.n (List.replicate d.rest.length (.tup [])) res) :=
  ⟨d, List.mem_of_find?_eq_some h, rfl, rfl, rfl, fn, t⟩
theorem xr {d : FD} {fn : Func} {F : CodeF} {res : List ARes} (t : FnFact P d fn F res) (h : (T.find? fun x => Nat.beq x.f d.f) = some d) : XOk P T d.f (.mrg F d.n (List.replicate d.rest.length (.tup [])) res) :=
  ⟨d, List.mem_of_find?_eq_some h, rfl, rfl, rfl, fn, t⟩
theorem xm {d : FD} {fn : Func} {F : CodeF} {res : List ARes} (t : FnFact P d fn F res) (h : (T.find? fun x => Nat.beq x.f d.f) = some d) {l : List Ent} (hl : ∀ e ∈ l, EntOk (statOf P T) d.f e) : XOk P T d.f (.memo l F d.n (List.replicate d.rest.length (.tup [])) res) :=
  ⟨⟨d, List.mem_of_find?_eq_some h, rfl, rfl, rfl, fn, t⟩, hl⟩
theorem xu {d : FD} {fn : Func} {id : Nat} {X : CodeF × CodeF} {F : CodeF} {res : List ARes} (t : FnFact P d fn F res) (u : RfFact P d fn id X) (h : (T.find? fun x => Nat.beq x.f d.f) = some d) : ∃ d ∈ T, ∃ fn, chkF d fn = true ∧ RfFact P d fn id X :=
  ⟨d, List.mem_of_find?_eq_some h, fn, t.chk, u⟩
theorem prog_ok (h : TabOk P T) {EL : List (Nat × XFn)} {RL : List (Nat × (CodeF × CodeF))} (hE : ∀ e ∈ EL, XOk P T e.1 e.2) (hR : ∀ r ∈ RL, ∃ d ∈ T, ∃ fn, chkF d fn = true ∧ RfFact P d fn r.1 r.2) {AP : AProg} (h1 : AP.fn = buildT EL) (h2 : AP.rf = buildT RL) : ProgOk (statOf P T) AP := by
  have get : ∀ f x, AP.fn.get f = some x → XOk P T f x := by
    intro f x hx
    rw [h1] at hx
    exact hE _ (buildT_get hx)
  refine ⟨?_, ?_, ?_, ?_, ?_, ?_⟩
  · intro f F k pads res hx
    obtain ⟨d, hd, rfl, rfl, rfl, fn, hf⟩ := get _ _ hx
    exact hf.ok h hd
  · intro f F k pads res hx
    obtain ⟨d, hd, rfl, rfl, rfl, fn, hf⟩ := get _ _ hx
    exact hf.ok h hd
  · exact fun f hx => get _ _ hx
  · exact fun f q hx => get _ _ hx
  · intro f l F k pads res hx
    obtain ⟨⟨d, hd, rfl, rfl, rfl, fn, hf⟩, he⟩ := get _ _ hx
    exact ⟨hf.ok h hd, he⟩
  · intro id F G hx
    rw [h2] at hx
    obtain ⟨d, hd, fn, hc, hf⟩ := hR _ (buildT_get hx)
    exact hf.ok h hd hc
theorem rc_ok (h : TabOk P T) {EL : List (Nat × XFn)} {RL : List (Nat × (CodeF × CodeF))} (hE : ∀ e ∈ EL, XOk P T e.1 e.2) (hR : ∀ r ∈ RL, ∃ d ∈ T, ∃ fn, chkF d fn = true ∧ RfFact P d fn r.1 r.2) {AP : AProg} (h1 : AP.fn = buildT EL) (h2 : AP.rf = buildT RL) (n : Nat) :
    RcOk (statOf P T) (evalA AP n) := eval_ok (prog_ok h hE hR h1 h2) mrg_ok n
end
end Go.Ai

namespace Go.Ai
open Go
variable {S : Stat} {ρ : Rho} {h : H} {w : World}

def ExtIs (P : Program) (f : Nat) (g : Array Value → Sem Value) : Prop := ∀ args w, (callFunc f args).run P w = ((do pure (Next.value (← g args))) : Sem Next).run P w

theorem extIs_of {P : Program} {f : Nat} {fn : Func} {g : Array Value → Sem Value} (hf : P.funcs[f]? = some fn) (h1 : (fn.name == "runtime.NumGoroutine") = false) (h2 : fn.body.isNone = true)
    (h3 : (Extern.findNext fn).isNone = true) (h4 : Extern.find fn = some g) : ExtIs P f g := by
  intro args w
  have h3 : Extern.findNext fn = none := Option.isNone_iff_eq_none.1 h3
  unfold callFunc
  simp only [Sem.run_bind, run_program, Result.andThen_ok, hf, h1, h2, h3, h4, Bool.false_eq_true, if_false, if_true]
  rfl

def findN (c : Nat) : List Nat → Nat → Int
  | [], _ => .negSucc 0
  | a :: l, i => match Nat.beq a c with
    | true => .ofNat i
    | false => findN c l (Nat.succ i)
def qIbs : List AVal → H → OR
  | [.str s, .int .u8 (.ofNat c)], h => match Nat.blt c 256 with
    | true => .ok (.int .i64 (findN c s 0)) h
    | false => .bad
  | _, _ => .bad
def qMclone : List AVal → H → OR
  | [.iface t (.map b)], h => match h.get b with
    | some (.map es ck) => .ok (.iface t (.map h.nx)) (h.new (.map es ck))
    | _ => .bad
  | _, _ => .bad

theorem findN_range (c : Nat) (hc : c < 256) : ∀ (l : List UInt8) (g : Nat → UInt8) (k : Nat), (∀ i (hi : i < l.length), g i = l[i]) →
    (match (List.range l.length).find? fun i => g i == c.toUInt8 with | some i => ((i + k : Nat) : Int) | none => -1) = findN c (l.map UInt8.toNat) k
  | [], g, k, _ => rfl
  | a :: l, g, k, hg => by
    have ih := findN_range c hc l (fun i => g (i + 1)) (k + 1) fun i hi => by rw [hg (i + 1) (by simp; omega)]; rfl
    have h0 : g 0 = a := hg 0 (by simp)
    rw [List.length_cons, List.range_succ_eq_map, List.find?_cons]
    simp only [List.map_cons, findN]
    have e : (g 0 == c.toUInt8) = Nat.beq a.toNat c := by
      rw [h0]
      cases hb : Nat.beq a.toNat c with
      | true =>
        obtain rfl := Nat.eq_of_beq_eq_true hb
        simp
      | false =>
        have := Nat.ne_of_beq_eq_false hb
        rw [beq_eq_false_iff_ne]
        rintro rfl
        apply this
        simp; omega
    rw [e]
    cases Nat.beq a.toNat c with
    | true => simp
    | false =>
      simp only [List.find?_map]
      rw [← ih]
      show (match Option.map Nat.succ ((List.range l.length).find? ((fun i => g i == c.toUInt8) ∘ Nat.succ)) with | some i => ((i + k : Nat) : Int) | none => -1) = _
      cases hq : (List.range l.length).find? ((fun i => g i == c.toUInt8) ∘ Nat.succ) with
      | none =>
        have hq' : ((List.range l.length).find? fun i => g (i + 1) == c.toUInt8) = none := hq
        simp [hq']
      | some i =>
        have hq' : ((List.range l.length).find? fun i => g (i + 1) == c.toUInt8) = some i := hq
        rw [hq']
        show ((Nat.succ i + k : Nat) : Int) = ((i + (k + 1) : Nat) : Int)
        congr 1
        omega

theorem ibs_ok {f : Nat} (hf : ExtIs S.P f Extern.BytealgIndexByte.indexByte) : ExtFn S f qIbs := by
  intro args h a h' hq ρ w args' r hv
  unfold qIbs at hq
  split at hq
  case h_2 => cases hq
  rename_i s c
  split at hq
  case h_2 => cases hq
  rename_i hc
  have hc : c < 256 := by simpa [Nat.blt_eq] using hc
  cases hq
  cases hv with
  | cons _ _ x l hx hl =>
    cases hl with
    | cons _ _ y l hy hl =>
      cases hl
      obtain ⟨bs, rfl, rfl⟩ := hx.str_inv
      obtain rfl := hy.int_inv
      refine ⟨.int .i64 (findN c (cstr bs) 0), ρ, w, ?_, .int _ _, r, Ext.refl _ _ _⟩
      rw [hf]
      have key := findN_range c hc bs.data.toList (fun i => bs[i]!) 0 fun i hi => by
        have hi' : i < bs.size := by simpa using hi
        rw [getElem!_pos bs i hi']
        rfl
      have hlen : bs.data.toList.length = bs.size := Array.length_toList
      rw [hlen] at key
      unfold cstr
      rw [← key]
      have hdef : Extern.BytealgIndexByte.indexByte ([.string bs, .int .u8 (Int.ofNat c)] : List Value).toArray = (do
          let b ← Extern.Bytes.bytesOf (.string bs)
          let c ← Extern.Bytes.asByte (.int .u8 (Int.ofNat c))
          match (List.range b.size).find? fun i => b[i]! == c with
          | some i => pure (goInt i)
          | none => pure (goInt (-1))) := rfl
      rw [hdef]
      have e : (Int.ofNat c).toNat = c := rfl
      simp only [Extern.Bytes.bytesOf, Extern.Bytes.asByte, Sem.run_bind, Sem.run_pure, Result.andThen_ok, e]
      cases (List.range bs.size).find? fun i => bs[i]! == c.toUInt8 with
      | none => rfl
      | some i => rfl

theorem mclone_ok {f : Nat} (hf : ExtIs S.P f Extern.MapsClone.clone) : ExtFn S f qMclone := by
  intro args h a h' hq ρ w args' r hv
  unfold qMclone at hq
  split at hq
  case h_2 => cases hq
  rename_i t b
  split at hq
  case h_2 => cases hq
  rename_i es ck hg
  cases hq
  cases hv with
  | cons _ _ x l hx hl =>
    cases hl
    cases hx with
    | iface _ _ v hx =>
      cases hx with
      | map _ pl hb =>
        obtain ⟨o, ho, es', rfl, he⟩ := r.obj _ _ _ hb hg
        obtain ⟨r1, x1⟩ := r.alloc (.map es ck) (.map es' ck) ⟨w.heap.size, 0, 0, 0⟩ rfl ⟨es', rfl, he.mono (r.le_with _)⟩
        refine ⟨.iface t (.map (some w.heap.size)), _, _, ?_, .iface _ _ _ (VRel.map _ _ (Rho.with_self _ _ _)), r1, x1⟩
        rw [hf]
        have hdef : Extern.MapsClone.clone ([.iface t (.map (some pl.blk))] : List Value).toArray = (do
            let .map entries clock ← getObj pl.blk | stuck "maps.clone: a map expected"
            pure (.iface t (.map (some (← newObj (.map entries clock)))))) := rfl
        rw [hdef]
        simp [run_getMap ho]
end Go.Ai

namespace Go.Ai
open Go Go.ChangeShapes Go.WideShapes Go.ChangeAt Go.RowKit

structure TabG where
  name : String
  g : Nat
  t : Nat
  k : IntKind
  zs : List Int
def h0Of (G : List TabG) (nx : Nat) : H := ⟨buildT (G.map fun x => (x.g, .cells (x.zs.map fun z => AVal.int x.k z) x.t 1 .ro false)), nx⟩
def ρ0Of (P : Program) (W : World) : Rho := fun g => if g < P.globals.size then some ⟨g, 0, (match W.heap[g]? with
  | some (.cells c _ _) => c.size
  | _ => 0), 0⟩ else none

theorem laidVars_tab {P : Program} {W : World} {name : String} {k : IntKind} {zs : List Int} {g : Nat} {t e : TypeId} {n : Nat} (hg : P.globalNamed name = some g) (hty : (P.globals[g]?).map (·.type) = some t) (ht : P.underlying t = some (.array n e))
    (he : P.underlying e = some (.int k)) (hce : P.cellsOf e = 1) (hct : P.cellsOf t = n) : ∀ {laid : List (String × DataW Unit)} {ps : List MemPlace}, DataW.LaidVars P W laid ps → (name, Lib.tabData k zs) ∈ laid → Lib.TabIs P W name k zs
  | [], _, _, h => by cases h
  | (m, d) :: r, ps, hl, h => by
    obtain ⟨g', t', cs, fuel, p, q, hg', ht', hvar, hd, hr, _⟩ := hl
    rcases List.mem_cons.1 h with h | h
    · injection h with e1 e2
      subst e1 e2
      obtain rfl := Option.some.inj (hg.symm.trans hg')
      obtain rfl := Option.some.inj (hty.symm.trans ht')
      unfold Lib.TabIs
      rw [hvar, ← Lib.cells_of_tab ht he hce hct hd]
    · exact laidVars_tab hg hty ht he hce hct hr h

structure TabGOk (P : Program) (W : World) (x : TabG) : Prop where
  lt : x.g < P.globals.size
  gl : P.globalNamed x.name = some x.g
  row : (((begin P (fun _ _ => 0) default).world.heap[x.g]?).bind Obj.row?).map (·.2) = some x.t
  is : Lib.TabIs P W x.name x.k x.zs

theorem init_ok {P : Program} {T : List FD} {W : World} {G : List TabG} {nx : Nat} (hsh : W.ShapedOpen P) (hG : ∀ x ∈ G, TabGOk P W x) (hnx : P.globals.size ≤ nx) (hsz : P.globals.size < (begin P (fun _ _ => 0) default).world.heap.size) :
    HR (statOf P T) (ρ0Of P W) (h0Of G nx) W ∧ GlR (statOf P T) (ρ0Of P W) := by
  have hW : P.globals.size < W.heap.size := by
    obtain ⟨o, _, h1, _⟩ := hsh.2 ((begin P (fun _ _ => 0) default).world.heap.size - 1) (by omega) (by omega)
    have := (Array.getElem?_eq_some_iff.1 h1).1
    omega
  have hget : ∀ b x, (h0Of G nx).get b = some x → ∃ y ∈ G, y.g = b ∧ x = .cells (y.zs.map fun z => AVal.int y.k z) y.t 1 .ro false := by
    intro b x hx
    have := buildT_get (i := b) (x := x) hx
    obtain ⟨y, hy, hyx⟩ := List.mem_map.1 this
    injection hyx with e1 e2
    exact ⟨y, hy, e1, e2.symm⟩
  have hρ : ∀ b pl, ρ0Of P W b = some pl → b < P.globals.size ∧ pl.blk = b ∧ pl.sh = 0 ∧ pl.sz = (match W.heap[b]? with | some (.cells c _ _) => c.size | _ => 0) := by
    intro b pl hb
    unfold ρ0Of at hb
    split at hb
    · rename_i hlt
      obtain rfl := Option.some.inj hb
      exact ⟨hlt, rfl, rfl, rfl⟩
    · cases hb
  refine ⟨⟨?_, ?_, ?_, ?_⟩, ?_⟩
  · intro b pl hb
    obtain ⟨h1, h2, _⟩ := hρ b pl hb
    exact ⟨Nat.lt_of_lt_of_le h1 hnx, by omega⟩
  · intro b pl x hb hx
    obtain ⟨h1, h2, h3, h4⟩ := hρ b pl hb
    obtain ⟨y, hy, rfl, rfl⟩ := hget b x hx
    have hy' := hG y hy
    obtain ⟨zero, hrow⟩ : ∃ zero, ((begin P (fun _ _ => 0) default).world.heap[y.g]?).bind Obj.row? = some (zero, y.t) := by
      have := hy'.row
      cases hq : ((begin P (fun _ _ => 0) default).world.heap[y.g]?).bind Obj.row? with
      | none => rw [hq] at this; cases this
      | some z => rw [hq] at this; obtain ⟨z1, z2⟩ := z; exact ⟨z1, by rw [← Option.some.inj this]⟩
    obtain ⟨cs, hcs, _, _⟩ := hsh.1 y.g zero y.t h1 hrow
    have hvar := hy'.is
    unfold Lib.TabIs World.var? at hvar
    rw [hy'.gl] at hvar
    simp only [Option.bind_some, hcs, Option.some.injEq] at hvar
    rw [hcs] at h4
    refine ⟨_, by rw [h2]; exact hcs, cs, 0, 0, rfl, h4.symm, ?_, ?_, trivial⟩
    · rw [h3, h4, hvar]; simp
    · intro i a ha
      rw [List.getElem?_map] at ha
      cases hz : y.zs[i]? with
      | none => rw [hz] at ha; cases ha
      | some z =>
        rw [hz] at ha
        obtain rfl := Option.some.inj ha
        refine ⟨.int y.k z, ?_, rfl, .int _ _⟩
        rw [h3, hvar, Nat.zero_add, List.getElem?_toArray, List.getElem?_map, hz]; rfl
  · intro b b' pl pl' x x' _ _ h3 h4 _ _
    obtain ⟨y, _, _, rfl⟩ := hget b x h3
    obtain ⟨y', _, _, rfl⟩ := hget b' x' h4
    exact ⟨trivial, trivial⟩
  · intro b x hx
    obtain ⟨y, hy, rfl, _⟩ := hget b x hx
    exact Nat.lt_of_lt_of_le (hG y hy).lt hnx
  · intro g hg
    have hg : g < P.globals.size := hg
    exact ⟨_, by unfold ρ0Of; rw [if_pos hg], rfl, rfl⟩

def isTrueO : Outs → Bool
  | .one (.ret (.bool true) none _) => true
  | _ => false
theorem run_ok {P : Program} {T : List FD} {W : World} {G : List TabG} {nx n f : Nat} {AP : AProg} {F : CodeF} {pads : TM} {res : List ARes} (hrc : RcOk (statOf P T) (evalA AP n)) (hf : FnOk (statOf P T) f F 0 pads res) (hsh : W.ShapedOpen P) (hG : ∀ x ∈ G, TabGOk P W x)
    (hnx : P.globals.size ≤ nx) (hsz : P.globals.size < (begin P (fun _ _ => 0) default).world.heap.size) (hrun : isTrueO (frameA (evalA AP n) n F 0 pads res [] none (h0Of G nx)) = true) :
    Calls P f #[] W fun e W' => e = .returned (.bool true) ∧ W.keptBut W' (fun _ => False) := by
  intro cs
  obtain ⟨r, g⟩ := init_ok (T := T) (G := G) (nx := nx) hsh hG hnx hsz
  obtain ⟨_, hout⟩ := frame_ok (m := n) hrc hf r g (args := []) (args' := []) .nil (up := none) (kind := .normal) (cs := cs) rfl
  generalize frameA (evalA AP n) n F 0 pads res [] none (h0Of G nx) = R at hrun hout
  unfold isTrueO at hrun
  split at hrun
  case h_2 => cases hrun
  rename_i h1
  obtain ⟨ρ', w', cs', hcs, v', fr, hv, _, x, _, hl, hfn, st⟩ := hout
  obtain rfl := CsR.normal hcs
  cases hv
  refine ⟨.returned (.bool true), w', fr, ⟨rfl, x.os, x.out, ?_⟩, st, hfn, hl⟩
  intro i hi
  have hfr := x.frame i hi (by
    rintro ⟨b, pl, y, _, h2, h3, _⟩
    have := buildT_get (i := b) (x := y) h2
    obtain ⟨z, _, hz⟩ := List.mem_map.1 this
    injection hz with _ hz
    exact h3 (hz ▸ trivial))
  rw [hfr]
  cases hq : W.heap[i]? with
  | none => rfl
  | some o => cases o <;> first | rfl | exact ⟨rfl, rfl, rfl, fun _ _ => rfl⟩ | exact .inr ⟨rfl, rfl⟩

theorem post_true {H : Type} {enc : TypeId × Value → H} {P : Program} {f : Func} {s : ChangeSpec} {apart fresh handsOn again : Bool} {W W' : World} {args : Array Value} {ds gs : List (DataW H)} {before : List MemPlace} {tb : TypeId} (hp : f.params = #[]) (hr : f.resultTypes = #[tb])
    (hb : P.underlying tb = some .bool) (hv : s.vars = []) (hfn : s.fn H [] = { results := [.lit (.bool true)], args := [] }) (hW : DataW.Whole enc P f.params.toList s.vars apart W args.toList ds gs before) (hk : W.keptBut W' (fun _ => False)) :
    s.post enc P f apart fresh handsOn again W args (.bool true) W' := by
  have hW0 := hW
  obtain ⟨p, q, hA, hV, rfl, hz, hn⟩ := hW
  rw [hp] at hA
  rw [hv] at hV
  obtain ⟨hargs, rfl, rfl⟩ := trodAll_nil hA
  obtain ⟨rfl, rfl⟩ := trodVars_none hV
  simp only [List.append_nil] at hW0
  refine ⟨[], [], [], [], [], [], hW0, ?_, ?_, ?_, World.keptBut_mono (fun _ h => h.elim) hk, fun _ => ⟨?_, [.lit (.bool true)], [], [], ⟨[], [], ?_, ?_, rfl, ?_, ?_⟩, ?_⟩⟩
  · rw [hr, List.append_nil, hfn]
    exact trodAll_cons_mk (shut_bool hb true) trodAll_mk0
  · rw [hp, hargs, List.append_nil, hfn]
    exact trodAll_mk0
  · rw [hv, List.append_nil, hfn]
    exact hV
  · exact ok_one hr rfl (okWide_bool_mk hb true)
  · rw [hp, hr, hargs]
    exact trodAll_cons_mk (shut_bool hb true) trodAll_mk0
  · rw [hv]; exact hV
  · intro b off h; cases h
  · intro _; exact List.nodup_nil
  · intro p h; cases h
theorem goes_none {P : Program} {c : OpenClaim} (hs : c.start = .entering) (h : P.funcs.any Func.goes = false) : false = c.goesBy P := by
  have hf : ∀ g : Nat, ((P.funcs[g]?).any Func.goes) = false := by
    intro g
    cases hg : P.funcs[g]? with
    | none => rfl
    | some fn =>
      rw [Array.any_eq_false] at h
      obtain ⟨hlt, he⟩ := Array.getElem?_eq_some_iff.1 hg
      have := h g hlt
      rw [he] at this
      simpa using this
  have hP : ∀ f, P.goes f = false := by
    intro f
    unfold Program.goes
    rw [h, Bool.and_false, Bool.or_false, List.any_eq_false]
    intro g _
    rw [hf g]
    simp
  unfold OpenClaim.goesBy Program.goesAt Program.goesFrom
  rw [hs]
  cases P.funcNamed c.func with
  | none => rfl
  | some f => simp [hP f]
end Go.Ai
