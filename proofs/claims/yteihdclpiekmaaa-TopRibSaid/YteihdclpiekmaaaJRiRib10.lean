/-
  TopRib holds of every input that can be given, without a condition.
-/
import Derived.Test.YteihdclpiekmaaaJRiRib9
import Derived.JoinedCond
section
namespace Go.Proofs.Yteihdclpiekmaaa
open Go Go.RowKit Go.Dec
set_option linter.unusedVariables false
def setF (f : Frame) (j : Nat) (s : Section) : Frame := Frame.mk (f.Sections.set j s) f.Low f.High f.Ease f.Rod f.Case
theorem foldl_gear : ∀ (l m : List Section) (r : Int), (l.map fun s => (s.Base, s.Gear)) = (m.map fun s => (s.Base, s.Gear)) → l.foldl gearStep r = m.foldl gearStep r
  | [], [], _, _ => rfl
  | [], _ :: _, _, h => by cases h
  | _ :: _, [], _, h => by cases h
  | a :: l, b :: m, r, h => by
    simp only [List.map_cons, List.cons.injEq, Prod.mk.injEq] at h
    have e : gearStep r a = gearStep r b := by unfold gearStep; rw [h.1.1, h.1.2]
    rw [List.foldl_cons, List.foldl_cons, e]
    exact foldl_gear l m _ h.2
section
variable {f : Frame} {j : Nat} {s : Section}
theorem set_dist (hj : j < f.Sections.length) (hb : s.Base = (secAt f j).Base) (hg : s.Gear = (secAt f j).Gear) (i : Nat) (r : Int) : dist (setF f j s) i r = dist f i r := by
  unfold dist
  refine foldl_gear _ _ _ ?_
  rw [List.map_drop, List.map_drop, List.map_take, List.map_take]
  congr 2
  show (f.Sections.set j s).map _ = _
  rw [List.map_set, hb, hg]
  apply List.ext_getElem?
  intro k
  rw [List.getElem?_set]
  split
  · rename_i e
    subst e
    rw [List.getElem?_map, secAt_get hj]
    simp [hj]
  · rfl
theorem set_same (hj : j < f.Sections.length) : secAt (setF f j s) j = s := by
  unfold secAt setF
  simp [hj]
theorem set_other {i : Nat} (h : i ≠ j) : secAt (setF f j s) i = secAt f i := by
  unfold secAt setF
  simp only
  rw [List.getElem?_set_ne (Ne.symm h)]
/-- known better -/
structure Narrow (f : Frame) (j : Nat) (s : Section) : Prop where
  lt : j < f.Sections.length
  b : s.Base = (secAt f j).Base
  g : s.Gear = (secAt f j).Gear
  a1 : (secAt f j).Arm.Low ≤ s.Arm.Low
  a2 : s.Arm.High ≤ (secAt f j).Arm.High
  s1 : (secAt f j).Stretch.Low ≤ s.Stretch.Low
  s2 : s.Stretch.High ≤ (secAt f j).Stretch.High
theorem nar_sides (h : Narrow f j s) (i : Nat) {x : frames_sides} (hx : x ∈ sidesL (secAt (setF f j s) i)) : x ∈ sidesL (secAt f i) := by
  by_cases hi : i = j
  · subst hi
    rw [set_same h.lt] at hx
    have := sides_mem.1 hx
    have := h.a1; have := h.a2; have := h.s1; have := h.s2
    exact sides_mem.2 (by omega)
  · rw [set_other hi] at hx; exact hx
theorem K_sub {s s' : Section} {p : frames_sides → Bool} (h1 : SecOk s) (h2 : SecOk s') (hsub : ∀ x ∈ sidesL s', x ∈ sidesL s) : K s p = 3 ∨ K s p = K s' p := by
  rcases K_mem s p with h | h | h
  · right; rw [h]; exact (K_one.2 fun x hx => K_one.1 h x (hsub x hx)).symm
  · right; rw [h]; exact ((K_two h2).2 fun x hx => (K_two h1).1 h x (hsub x hx)).symm
  · exact .inl h
end
theorem setF_setF (f : Frame) (j : Nat) (s s' : Section) : setF (setF f j s) j s' = setF f j s' := by
  unfold setF
  simp only [List.set_set]
/-- what is said of a frame that is known better -/
structure Better (A B : Frame) (j : Nat) : Prop where
  cos : (cosineT A j A.Low).2.2 = (cosineT B j B.Low).2.2 ∧ ((cosineT A j A.Low).2.2 = 3 ∨ ((cosineT A j A.Low).2.2 = 0 ∧ (FracOk (cosineT A j A.Low).1 ∧ FracOk (cosineT A j A.Low).2.1 ∧ FracOk (cosineT B j B.Low).1 ∧ FracOk (cosineT B j B.Low).2.1) ∧ ltF (cosineT B j B.Low).1 (cosineT A j A.Low).1 = false ∧ ltF (cosineT A j A.Low).2.1 (cosineT B j B.Low).2.1 = false))
  binds : (bindsT A j A.High).2 = 0 ∧ (bindsT B j B.High).2 = 0 ∧ ((bindsT A j A.High).1 = 3 ∨ (bindsT A j A.High).1 = (bindsT B j B.High).1)
  opens : (opensT A).2 = 0 ∧ (opensT B).2 = 0 ∧ ((opensT A).1 = 3 ∨ (opensT A).1 = (opensT B).1)
theorem better {A : Frame} {j : Nat} {s : Section} (hN : Narrow A j s) (ha : okF A = true) (hb : okF (setF A j s) = true) : Better A (setF A j s) j := by
  have hf := okF_iff.1 ha
  have hg := okF_iff.1 hb
  have hleq : (setF A j s).Sections.length = A.Sections.length := by simp [setF]
  have hjl := hN.lt
  have hr := hf.r
  have hln := hf.n
  have hdist := fun i r => set_dist hN.lt hN.b hN.g i r
  have hsec : ∀ i, i < A.Sections.length → SecOk (secAt (setF A j s) i) := fun i hi => hg.s _ (secAt_mem (by rw [hleq]; exact hi))
  have hsec0 : ∀ i, i < A.Sections.length → SecOk (secAt A i) := fun i hi => hf.s _ (secAt_mem hi)
  have w1 : wi (j : Int) 0 ((A.Sections.length : Int) - 1) = true := wi_t.2 (by omega)
  have wL : wi A.Low A.Low A.High = true := wi_t.2 (by omega)
  have wH : wi A.High A.Low A.High = true := wi_t.2 (by omega)
  have aL : askT A j A.Low = 0 := ask_zero ha (by rw [w1, wL]; rfl)
  have aH : askT A j A.High = 0 := ask_zero ha (by rw [w1, wH]; rfl)
  have bL : askT (setF A j s) j A.Low = 0 := ask_zero hb (by rw [hleq, w1, show (setF A j s).Low = A.Low from rfl, show (setF A j s).High = A.High from rfl, wL]; rfl)
  have bH : askT (setF A j s) j A.High = 0 := ask_zero hb (by rw [hleq, w1, show (setF A j s).Low = A.Low from rfl, show (setF A j s).High = A.High from rfl, wH]; rfl)
  have hbi : ∀ i, i < A.Sections.length → ∀ r, bindsI A i r = 3 ∨ bindsI A i r = bindsI (setF A j s) i r := fun i hi r => by
    have := K_sub (p := bindsP (dist A i r) A.Ease) (hsec0 i hi) (hsec i hi) (fun x hx => nar_sides hN i hx)
    unfold bindsI
    rw [hdist]
    exact this
  have hst : ∀ i, i < A.Sections.length → stuckI A i = 3 ∨ stuckI A i = stuckI (setF A j s) i := fun i hi => by
    have := K_sub (p := stuckP A i) (hsec0 i hi) (hsec i hi) (fun x hx => nar_sides hN i hx)
    have e : stuckP (setF A j s) i = stuckP A i := by
      funext x
      unfold stuckP
      have : (fun r => bindsP (dist (setF A j s) i r) (setF A j s).Ease x) = fun r => bindsP (dist A i r) A.Ease x := by funext r; rw [hdist]; rfl
      rw [this]; rfl
    unfold stuckI
    rw [e]
    exact this
  refine ⟨?_, ?_, ?_⟩
  · have hd := dist_in hf (r := A.Low) (by omega) j
    rw [show (setF A j s).Low = A.Low from rfl]
    by_cases h0 : dist A j A.Low = 0
    · have e1 : cosineT A j A.Low = (⟨0, 0⟩, ⟨0, 0⟩, 3) := by unfold cosineT; rw [if_pos aL, Int.toNat_natCast, if_pos h0]
      have e2 : cosineT (setF A j s) j A.Low = (⟨0, 0⟩, ⟨0, 0⟩, 3) := by unfold cosineT; rw [if_pos bL, Int.toNat_natCast, hdist, if_pos h0]
      rw [e1, e2]
      exact ⟨rfl, .inl rfl⟩
    · have hd' : 1 ≤ dist A j A.Low ∧ dist A j A.Low ≤ 6000 := by omega
      have e1 : cosineT A j A.Low = (red (lowF (dist A j A.Low) (sidesL (secAt A j))), red (highF (dist A j A.Low) (sidesL (secAt A j))), 0) := by unfold cosineT; rw [if_pos aL, Int.toNat_natCast, if_neg h0]
      have e2 : cosineT (setF A j s) j A.Low = (red (lowF (dist A j A.Low) (sidesL (secAt (setF A j s) j))), red (highF (dist A j A.Low) (sidesL (secAt (setF A j s) j))), 0) := by unfold cosineT; rw [if_pos bL, Int.toNat_natCast, hdist, if_neg h0]
      have x1 : ∀ y ∈ sidesL (secAt A j), XOk y := fun y hy => sides_ok (hsec0 _ hjl) hy
      have x2 : ∀ y ∈ sidesL (secAt (setF A j s) j), XOk y := fun y hy => sides_ok (hsec _ hjl) hy
      obtain ⟨⟨_, l1⟩, ⟨_, l2⟩⟩ := low_spec hd' _ x1 (sides_ne (hsec0 _ hjl))
      obtain ⟨⟨⟨z1, hz1, m1⟩, _⟩, ⟨⟨z2, hz2, m2⟩, _⟩⟩ := low_spec hd' _ x2 (sides_ne (hsec _ hjl))
      have o1 := low_ok hd' _ x1 (sides_ne (hsec0 _ hjl))
      have o2 := low_ok hd' _ x2 (sides_ne (hsec _ hjl))
      have s1 := l1 z1 (nar_sides hN _ hz1)
      have s2 := l2 z2 (nar_sides hN _ hz2)
      rw [← m1] at s1
      rw [← m2] at s2
      rw [e1, e2]
      refine ⟨rfl, .inr ⟨rfl, ⟨red_ok o1.1, red_ok o1.2, red_ok o2.1, red_ok o2.2⟩, ?_, ?_⟩⟩
      · simp only; rw [ltF_red o2.1.1.1 o1.1.1.1]; exact s1
      · simp only; rw [ltF_red o1.2.1.1 o2.2.1.1]; exact s2
  · rw [show (setF A j s).High = A.High from rfl]
    have e1 : bindsT A j A.High = (bindsI A j A.High, 0) := by unfold bindsT; rw [if_pos aH, Int.toNat_natCast]
    have e2 : bindsT (setF A j s) j A.High = (bindsI (setF A j s) j A.High, 0) := by unfold bindsT; rw [if_pos bH, Int.toNat_natCast]
    rw [e1, e2]
    exact ⟨rfl, rfl, hbi _ hjl _⟩
  · have eo : opensT A = (opensI A, 0) := by unfold opensT; rw [if_pos ha]
    have eo' : opensT (setF A j s) = (opensI (setF A j s), 0) := by unfold opensT; rw [if_pos hb]
    rw [eo, eo']
    refine ⟨rfl, rfl, ?_⟩
    simp only
    rcases opens_mem A with e | e | e
    · right
      rw [e]
      refine (opens_one.2 fun i hi => ?_).symm
      rw [hleq] at hi
      have q := opens_one.1 e i hi
      rcases hst i hi with k | k
      · rw [q] at k; cases k
      · rw [← k]; exact q
    · right
      rw [e]
      obtain ⟨i, hi, q⟩ := opens_two.1 e
      refine (opens_two.2 ⟨i, by rw [hleq]; exact hi, ?_⟩).symm
      rcases hst i hi with k | k
      · rw [q] at k; cases k
      · rw [← k]; exact q
    · exact .inl e
/-- one trial more -/
def addT (w : Workshop) (t : Trial) : Workshop := Workshop.mk w.Spares w.Makes w.Cut (w.Table ++ [t])
theorem addT_can {w : Workshop} {t : Trial} {i z : Int} (h : canBe (addT w t) i z = true) : canBe w i z = true := by
  simp only [canBe, addT, List.all_append, Bool.and_eq_true] at h
  exact h.1
theorem addT_sub {w : Workshop} {t : Trial} {i z : Int} (h : z ∈ allL (addT w t) i) : z ∈ allL w i := by
  unfold allL at h ⊢
  rw [List.mem_filter] at h ⊢
  exact ⟨h.1, addT_can h.2⟩
theorem fitted_ok : F_top_fitted 100000000 = some true := by kernel_rfl
theorem fitted_at : ∃ n, 100000000 ≤ n ∧ F_top_fitted n = some true := ⟨100000000, Nat.le_refl _, fitted_ok⟩
theorem law_TopRib (w : Workshop) (f : Frame) (x : top_Fitting) (_ : W_Workshop w) (_ : W_Frame f) (_ : W_top_Fitting x) : ∃ n, F_top_TopRib n w f x = some true := by
  obtain ⟨n, hn, hfit⟩ := fitted_at
  refine ⟨n, ?_⟩
  obtain ⟨b, hb, hbs⟩ := p_Far7 hn w
  simp only [F_top_TopRib, hb, Option.bind_some]
  by_cases h0 : (b || (decide (9 < (w.Table.length : Int)))) = true
  · simp only [h0, if_true, Option.bind_some, hfit]
  simp only [Bool.not_eq_true] at h0
  have hb0 : b = false := (Bool.or_eq_false_iff.1 h0).1
  have hs := hbs hb0
  have h9 : w.Table.length ≤ 9 := by have := (Bool.or_eq_false_iff.1 h0).2; simp only [decide_eq_false_iff_not] at this; omega
  obtain ⟨e, he, hek⟩ := p_Known7 hn w hs
  simp only [h0, Bool.false_eq_true, if_false, he, Option.bind_some]
  by_cases h1 : (e != 0) = true
  · simp only [h1, if_true, Option.bind_some, hfit]
  have he0 : e = 0 := by simpa using h1
  obtain ⟨ho, hfr, hne⟩ := hek he0
  have hw := okW_wok ho
  simp only [Bool.not_eq_true] at h1
  simp only [h1, Bool.false_eq_true, if_false]
  rcases p_Far hn f with hF | ⟨hF, hl40, _⟩
  · simp only [hF, if_true, Option.bind_some, hfit]
  have hl : f.Sections.length ≤ 1000 := by omega
  simp only [hF, Option.bind_some, Bool.false_eq_true, if_false, p_Check01 hn hl]
  by_cases hok : okF f = true
  case neg => simp only [hok, Bool.false_eq_true, if_false, show ((10 : Int) != 0) = true from rfl, if_true, Option.bind_some, hfit]
  simp only [hok, if_true, bne_self_eq_false, Bool.false_eq_true, if_false, p_isSp7 hn w _ (show w.Spares.length ≤ 1000 by have := hw.nsp; omega), Option.bind_some]
  by_cases hi : isSp w x.Spare = true
  case neg => simp only [Bool.not_eq_true] at hi; simp only [hi, Bool.not_false, if_true, Option.bind_some, hfit]
  simp only [hi, Bool.not_true, Bool.false_eq_true, if_false, p_IsSection hn hl, Option.bind_some]
  by_cases hj : wi x.Section 0 ((f.Sections.length : Int) - 1) = true
  case neg => simp only [Bool.not_eq_true] at hj; simp only [hj, Bool.not_false, if_true, hfit, Option.bind_some]
  have hil : 0 ≤ x.Spare ∧ x.Spare < w.Spares.length := by have := wi_t.1 hi; omega
  have hjl := wi_t.1 hj
  obtain ⟨j, hjj⟩ : ∃ j : Nat, x.Section = (j : Int) := ⟨x.Section.toNat, by omega⟩
  have hjlt : j < f.Sections.length := by omega
  have elim : lim (w.Table ++ [x.Trial]) = some (w.Table ++ [x.Trial]) := lim_ok (by simp; omega)
  simp only [hj, Bool.not_true, Bool.false_eq_true, if_false, p_Copy7 hn w hs, elim, Option.bind_some, show Workshop.mk w.Spares w.Makes w.Cut (w.Table ++ [x.Trial]) = addT w x.Trial from rfl]
  have hs' : SmallW (addT w x.Trial) := ⟨hs.nsp, hs.nmk, by simp [addT]; omega, hs.nsl, hs.nsc⟩
  obtain ⟨e', he', hek'⟩ := p_Known7 hn (addT w x.Trial) hs'
  simp only [he', Option.bind_some]
  by_cases h2 : (e' != 0) = true
  · simp only [h2, if_true, hfit, Option.bind_some]
  have he0' : e' = 0 := by simpa using h2
  obtain ⟨ho', hfr', hne'⟩ := hek' he0'
  have hw' := okW_wok ho'
  simp only [Bool.not_eq_true] at h2
  obtain ⟨a1, b1, hL1, ha1, hb1, hm1⟩ := p_Length hn hs hw ho hfr hne hil
  obtain ⟨a2, b2, hL2, ha2, hb2, hm2⟩ := p_Length hn hs' hw' ho' hfr' hne' (i := x.Spare) hil
  have q1 := hm1 a2 (addT_sub ha2)
  have q2 := hm1 b2 (addT_sub hb2)
  have q3 := hm2 a2 ha2
  have d1 : decide (a2 < a1) = false := by simp; omega
  have d2 : decide (b1 < b2) = false := by simp; omega
  have d3 : decide (b2 < a2) = false := by simp; omega
  have eg : geti f.Sections x.Section = some (secAt f j) := by rw [hjj, geti_nat]; exact secAt_get hjlt
  simp only [h2, hL1, hL2, d1, d2, d3, Option.bind_some, bne_self_eq_false, Bool.or_self, Bool.false_eq_true, if_false, p_Copy01 hn hl, eg]
  have hset : ∀ s, setx f.Sections x.Section s = f.Sections.set j s := fun s => by unfold setx; rw [hjj]; simp
  simp only [hset, show ∀ s, Frame.mk (f.Sections.set j s) f.Low f.High f.Ease f.Rod f.Case = setF f j s from fun s => rfl]
  generalize hsa : Section.mk (Span.mk a1 b1) (secAt f j).Stretch (secAt f j).Base (secAt f j).Gear = sa
  generalize hsb : Section.mk (Span.mk a2 b2) (secAt f j).Stretch (secAt f j).Base (secAt f j).Gear = sb
  have hla : ∀ s, (setF f j s).Sections.length ≤ 1000 := fun s => by simp [setF]; omega
  simp only [p_Check01 hn (hla _), Option.bind_some]
  by_cases hoa : okF (setF f j sa) = true
  case neg => simp only [hoa, Bool.false_eq_true, if_false, show ((10 : Int) != 0) = true from rfl, if_true, Option.bind_some, hfit]
  simp only [hoa, if_true, bne_self_eq_false, Bool.false_eq_true, if_false]
  by_cases hob : okF (setF f j sb) = true
  case neg => simp only [hob, Bool.false_eq_true, if_false, show ((10 : Int) != 0) = true from rfl, if_true, Option.bind_some, hfit]
  simp only [hob, if_true, bne_self_eq_false, Bool.false_eq_true, if_false, Option.bind_some, p_Cosine hn (hla _), p_Opens hn (hla _), p_Binds hn (hla _)]
  have hN : Narrow (setF f j sa) j sb := by
    have e : secAt (setF f j sa) j = sa := set_same hjlt
    refine ⟨by simpa [setF] using hjlt, ?_, ?_, ?_, ?_, ?_, ?_⟩ <;> rw [e] <;> subst hsa <;> subst hsb <;> first | rfl | (simp only; omega)
  have B := better hN hoa (by rw [setF_setF]; exact hob)
  rw [setF_setF] at B
  obtain ⟨⟨c1, c2⟩, ⟨k1, k2, k3⟩, ⟨l1, l2, l3⟩⟩ := B
  simp only [show ∀ s, (setF f j s).Low = f.Low from fun _ => rfl, show ∀ s, (setF f j s).High = f.High from fun _ => rfl] at c1 c2 k1 k2 k3
  rw [hjj]
  generalize cosineT (setF f j sa) j f.Low = ca at *
  generalize cosineT (setF f j sb) j f.Low = cb at *
  generalize bindsT (setF f j sa) j f.High = ba at *
  generalize bindsT (setF f j sb) j f.High = bb at *
  generalize opensT (setF f j sa) = oa at *
  generalize opensT (setF f j sb) = ob at *
  have hfin : (((((((oa.2 == 0) && (ob.2 == 0)) && (ba.2 == 0)) && (bb.2 == 0)) && ((oa.1 == 3) || (oa.1 == ob.1))) && ((ba.1 == 3) || (ba.1 == bb.1)))) = true := by
    rw [k1, k2, l1, l2]
    have e1 : ((oa.1 == 3) || (oa.1 == ob.1)) = true := by rcases l3 with e | e <;> simp [e]
    have e2 : ((ba.1 == 3) || (ba.1 == bb.1)) = true := by rcases k3 with e | e <;> simp [e]
    rw [e1, e2]; rfl
  rcases c2 with c2 | ⟨c2, ⟨g1, g2, g3, g4⟩, s1, s2⟩
  · have z1 : ((ca.2.2 != cb.2.2) || ((ca.2.2 != 0) && (ca.2.2 != 3))) = false := by rw [← c1, c2]; rfl
    have z2 : (ca.2.2 == 0) = false := by rw [c2]; rfl
    simp only [z1, z2, Bool.false_eq_true, if_false, Option.bind_some, hfin, if_true, hfit]
  · have z1 : ((ca.2.2 != cb.2.2) || ((ca.2.2 != 0) && (ca.2.2 != 3))) = false := by rw [← c1, c2]; rfl
    have z2 : (ca.2.2 == 0) = true := by rw [c2]; rfl
    have m1 := g1.1; have m2 := g2.1; have m3 := g3.1; have m4 := g4.1
    have n1 := g1.2; have n2 := g2.2; have n3 := g3.2; have n4 := g4.2
    have z3 : ((((decide ((min (min (min ca.1.Den ca.2.1.Den) cb.1.Den) cb.2.1.Den) < 1)) || (decide (1073741824 < (max (max (max ca.1.Den ca.2.1.Den) cb.1.Den) cb.2.1.Den)))) || (decide (1073741824 < (max (max (max ca.1.Num ca.2.1.Num) cb.1.Num) cb.2.1.Num)))) || (decide ((min (min (min ca.1.Num ca.2.1.Num) cb.1.Num) cb.2.1.Num) < (-1073741824)))) = false := by
      simp only [Bool.or_eq_false_iff, decide_eq_false_iff_not]
      omega
    simp only [z1, z2, z3, Bool.false_eq_true, if_false, if_true, Option.bind_some, p_Less n (frac_b g3) (frac_b g1), p_Less n (frac_b g2) (frac_b g4), s1, s2, hfin, hfit]
end Go.Proofs.Yteihdclpiekmaaa
end
section
namespace Go.Proofs.Yteihdclpiekmaaa
open Go Go.RowKit Go.Dec Go.ChangeShapes Go.WideShapes Go.ChangeAt
set_option linter.unusedVariables false
theorem cl_laidOut : laidOutB Try.prog = true := by kernel_rfl
theorem cl_own : ownKnob Try.prog.godebug = none := by kernel_rfl
set_option maxRecDepth 100000 in
set_option maxHeartbeats 1000000 in
theorem topRib_contract (law : ∀ (x0 : Workshop) (x1 : Frame) (x2 : top_Fitting), W_Workshop x0 → W_Frame x1 → W_top_Fitting x2 → ∃ n, F_top_TopRib n x0 x1 x2 = some true)
    (T : Type) (enc : TypeId × Value → T) (W : World) (base : Nat) (args : Array Value) (ds gs : List (DataW T)) (before : List MemPlace)
    (hval : ∀ (j : Nat) t v, Try.f4.params[j]? = some t → args[j]? = some v → Value.okWide Try.prog W .any base t v)
    (hW : DataW.Whole enc Try.prog Try.f4.params.toList Rows.topRibSpec.vars false W args.toList ds gs before) :
    Calls Try.prog 4 args W fun e W' => ∃ v, e = .returned v ∧ Rows.topRibSpec.post enc Try.prog Try.f4 false true false false W args v W' := by
  have hW' := hW
  obtain ⟨p, q, hA0, hV, rfl, hfz, hnd⟩ := hW
  have hA : DataW.TrodAll enc Try.prog W 0 (fun _ => true) true Try.f4.params.toList args.toList ds p := hA0
  rw [Try.params4] at hA hval
  obtain ⟨v0, vs0, d0, ds0, p0, q0, hargs, rfl, rfl, h0, r0⟩ := trodAll_cons hA
  obtain ⟨v1, vs1, d1, ds1, p1, q1, rfl, rfl, rfl, h1, r1⟩ := trodAll_cons r0
  obtain ⟨v2, vs2, d2, ds2, p2, q2, rfl, rfl, rfl, h2, r2⟩ := trodAll_cons r1
  obtain ⟨rfl, rfl, rfl⟩ := trodAll_nil r2
  obtain rfl : args = #[v0, v1, v2] := by rw [← Array.toArray_toList (xs := args), hargs]
  obtain ⟨rfl, rfl⟩ := trodVars_none hV
  obtain ⟨cs0, rfl, hs0⟩ := okWide_struct Try.underlying48 (hval 0 48 v0 rfl rfl)
  obtain ⟨cs1, rfl, hs1⟩ := okWide_struct Try.underlying53 (hval 1 53 v1 rfl rfl)
  obtain ⟨cs2, rfl, hs2⟩ := okWide_struct Try.underlying57 (hval 2 57 v2 rfl rfl)
  have k0 := h0
  obtain ⟨f0, e0⟩ := h0
  have k1 := h1
  obtain ⟨f1, e1⟩ := h1
  have k2 := h2
  obtain ⟨f2, e2⟩ := h2
  obtain ⟨_, x0, r0, w0⟩ := o_Workshop _ _ _ _ _ _ _ e0
  obtain ⟨_, x1, r1, w1⟩ := o_Frame _ _ _ _ _ _ _ e1
  obtain ⟨_, x2, r2, w2⟩ := o_top_Fitting _ _ _ _ _ _ _ e2
  obtain ⟨n, hn⟩ := law x0 x1 x2 w0 w1 w2
  obtain ⟨u0_0, u0_1, u0_2, q0, s0_0, s0_1, s0_2⟩ := r0
  have q0 : cs0.toList = _ := q0
  obtain rfl : cs0 = _ := by rw [← Array.toArray_toList (xs := cs0), q0]
  obtain ⟨u1_0, q1, s1_0⟩ := r1
  have q1 : cs1.toList = _ := q1
  obtain rfl : cs1 = _ := by rw [← Array.toArray_toList (xs := cs1), q1]
  have q2 : cs2.toList = _ := r2
  obtain rfl : cs2 = _ := by rw [← Array.toArray_toList (xs := cs2), q2]
  have hlt : ∀ x ∈ p0 ++ (p1 ++ (p2 ++ [])), x.block < W.heap.size := fun x hx => hW'.lt x (by simpa using hx)
  refine ((c_top_TopRib n (hw W) x0 u0_0 s0_0 u0_1 s0_1 u0_2 s0_2 x1 u1_0 s1_0 x2 true hn) W (hw_le W)).mono fun e W' ⟨he, hb0⟩ => ?_
  have hb := hb0.plain rfl
  subst he
  refine ⟨_, rfl, _, _, _, [], p0 ++ (p1 ++ (p2 ++ [])), [], hW', trodAll_cons_mk (shut_bool Try.underlying4 _) trodAll_mk0, ?_, rfl, hb.frame _, fun h => by cases h⟩
  exact trodAll_cons_mk (Below.trod cl_laidOut (by kernel_rfl) (of_decide_eq_true (by kernel_rfl)) k0 hb (fun x hx => hlt x (List.mem_append_left _ hx))) (trodAll_cons_mk (Below.trod cl_laidOut (by kernel_rfl) (of_decide_eq_true (by kernel_rfl)) k1 hb (fun x hx => hlt x (List.mem_append_right _ (List.mem_append_left _ hx)))) (trodAll_cons_mk (Below.trod cl_laidOut (by kernel_rfl) (of_decide_eq_true (by kernel_rfl)) k2 hb (fun x hx => hlt x (List.mem_append_right _ (List.mem_append_right _ (List.mem_append_left _ hx))))) trodAll_mk0))
set_option maxRecDepth 100000 in
theorem topRib_lifted (law : ∀ (x0 : Workshop) (x1 : Frame) (x2 : top_Fitting), W_Workshop x0 → W_Frame x1 → W_top_Fitting x2 → ∃ n, F_top_TopRib n x0 x1 x2 = some true)
    (os : Os) (started : os.Started) (H : Type) (enc : TypeId × Value → H) :
    ReturnsInHanded {} Try.checked os 4 .any (Rows.topRibSpec.pre6 enc Try.prog Try.f4 Rows.topRibRow.domain false) (Rows.topRibSpec.post enc Try.prog Try.f4 false true false false) := by
  refine returnsInHanded_of_change (C := Try.checked) cl_own started (by kernel_rfl) Try.func4
    (ChangeSpec.witness6 (enc := enc) (C := Try.checked) false ⟨#[], #[.agg #[.slice none 0 0, .slice none 0 0, .int .i64 0, .slice none 0 0], .agg #[.slice none 0 0, .int .i64 0, .int .i64 0, .int .i64 0, .int .i64 0, .int .i64 0, .int .i64 0], .agg #[.int .i64 0, .int .i64 0, .int .i64 0, .int .i64 0, .int .i64 0, .int .i64 0]], []⟩ 8 (by kernel_rfl) (by kernel_rfl) (by kernel_rfl) (by kernel_rfl)) ?_
  intro W base args ds gs before hval hW _ _
  exact topRib_contract law H enc W base args ds gs before hval hW
theorem topRib_holds (law : ∀ (x0 : Workshop) (x1 : Frame) (x2 : top_Fitting), W_Workshop x0 → W_Frame x1 → W_top_Fitting x2 → ∃ n, F_top_TopRib n x0 x1 x2 = some true) : Rows.TopRibSaid :=
  OpenClaim.holds_of_wide 4 Try.f4 rfl rfl rfl rfl rfl rfl rfl ⟨rfl, rfl, rfl, rfl, rfl⟩ rfl rfl rfl rfl rfl (by kernel_rfl) Try.func4 (by kernel_rfl)
    (of_decide_eq_true (by kernel_rfl)) (by unfold Func.isWrapper; first | (rw [if_pos (by decide +kernel)]; kernel_rfl) | (rw [if_neg (by decide +kernel)]; exact ⟨rfl, rfl⟩))
    (fun os started H enc _ => topRib_lifted law os started H enc)
theorem topRib_proved : Rows.TopRibSaid := topRib_holds law_TopRib
end Go.Proofs.Yteihdclpiekmaaa
end
