/-
  The plain law of FramesFiner.
-/
import Derived.Test.YtmgnhaibbeinbaaPfe
import Derived.Test.YtmgnhaibbeinbaaOpn
import Derived.Test.YtmgnhaibbeinbaaGenX
namespace Go.Proofs.Ytmgnhaibbeinbaa
open Go Go.RowKit Go.Dec
set_option linter.unusedVariables false
def setF (f : Frame) (j : Nat) (s : Section) : Frame := Frame.mk (f.Sections.set j s) f.Low f.High f.Ease f.Rod f.Case
theorem foldl_gear : ∀ (l m : List Section) (r : Int), (l.map fun s => (s.Base, s.Gear)) = (m.map fun s => (s.Base, s.Gear)) → l.foldl gearStep r = m.foldl gearStep r
  | [], [], _, _ => rfl
  | [], _ :: _, _, h => by cases h
  | _ :: _, [], _, h => by cases h
  | a :: l, b :: m, r, h => by
    simp only [List.map_cons, List.cons.injEq, Prod.mk.injEq] at h
    have e : gearStep r a = gearStep r b := by unfold gearStep; rw [h.1.1, h.1.2]
    rw [List.foldl_cons, List.foldl_cons, e]
    exact foldl_gear l m _ h.2
section
variable {f : Frame} {j : Nat} {s : Section}
theorem set_dist (hj : j < f.Sections.length) (hb : s.Base = (secAt f j).Base) (hg : s.Gear = (secAt f j).Gear) (i : Nat) (r : Int) : dist (setF f j s) i r = dist f i r := by
  unfold dist
  refine foldl_gear _ _ _ ?_
  rw [List.map_drop, List.map_drop, List.map_take, List.map_take]
  congr 2
  show (f.Sections.set j s).map _ = _
  rw [List.map_set, hb, hg]
  apply List.ext_getElem?
  intro k
  rw [List.getElem?_set]
  split
  · rename_i e
    subst e
    rw [List.getElem?_map, secAt_get hj]
    simp [hj]
  · rfl
theorem set_same (hj : j < f.Sections.length) : secAt (setF f j s) j = s := by
  unfold secAt setF
  simp [hj]
theorem set_other {i : Nat} (h : i ≠ j) : secAt (setF f j s) i = secAt f i := by
  unfold secAt setF
  simp only
  rw [List.getElem?_set_ne (Ne.symm h)]
/-- known better -/
structure Narrow (f : Frame) (j : Nat) (s : Section) : Prop where
  lt : j < f.Sections.length
  b : s.Base = (secAt f j).Base
  g : s.Gear = (secAt f j).Gear
  a1 : (secAt f j).Arm.Low ≤ s.Arm.Low
  a2 : s.Arm.High ≤ (secAt f j).Arm.High
  s1 : (secAt f j).Stretch.Low ≤ s.Stretch.Low
  s2 : s.Stretch.High ≤ (secAt f j).Stretch.High
theorem nar_sides (h : Narrow f j s) (i : Nat) {x : frames_sides} (hx : x ∈ sidesL (secAt (setF f j s) i)) : x ∈ sidesL (secAt f i) := by
  by_cases hi : i = j
  · subst hi
    rw [set_same h.lt] at hx
    have := sides_mem.1 hx
    have := h.a1; have := h.a2; have := h.s1; have := h.s2
    exact sides_mem.2 (by omega)
  · rw [set_other hi] at hx; exact hx
theorem K_sub {s s' : Section} {p : frames_sides → Bool} (h1 : SecOk s) (h2 : SecOk s') (hsub : ∀ x ∈ sidesL s', x ∈ sidesL s) : K s p = 3 ∨ K s p = K s' p := by
  rcases K_mem s p with h | h | h
  · right; rw [h]; exact (K_one.2 fun x hx => K_one.1 h x (hsub x hx)).symm
  · right; rw [h]; exact ((K_two h2).2 fun x hx => (K_two h1).1 h x (hsub x hx)).symm
  · exact .inl h
end
theorem fold_max_le' {α : Type} {g : α → Int} {M : Int} : ∀ (l : List α) (a : Int), a ≤ M → (∀ x ∈ l, g x ≤ M) → l.foldl (fun m x => max m (g x)) a ≤ M
  | [], a, h, _ => h
  | x :: l, a, h, hx => by
    rw [List.foldl_cons]
    exact fold_max_le' l _ (by have := hx x (List.mem_cons_self ..); omega) (fun y hy => hx y (List.mem_cons_of_mem _ hy))
theorem le_fold_max' {α : Type} {g : α → Int} : ∀ (l : List α) (a : Int), a ≤ l.foldl (fun m x => max m (g x)) a ∧ ∀ x ∈ l, g x ≤ l.foldl (fun m x => max m (g x)) a
  | [], a => ⟨Int.le_refl _, fun x h => by cases h⟩
  | y :: l, a => by
    obtain ⟨h1, h2⟩ := le_fold_max' l (max a (g y)) (g := g)
    rw [List.foldl_cons]
    refine ⟨by omega, fun x hx => ?_⟩
    rcases List.mem_cons.1 hx with rfl | hx
    · omega
    · exact h2 x hx
theorem law_FramesFiner (f : Frame) (y : law01_Finer) (x : law01_Ask) (_ : W_Frame f) (_ : W_law01_Finer y) (_ : W_law01_Ask x) : ∃ n, F_law01_FramesFiner n f y x = some true := by
  obtain ⟨n, hn, hw⟩ := works_at
  refine ⟨n, ?_⟩
  simp only [F_law01_FramesFiner]
  rcases p_ready hn f with h | ⟨h, hok⟩
  · simp [h, hw]
  · have hf := okF_iff.1 hok.1
    have hln := hf.n
    have hl : f.Sections.length ≤ 1000 := by omega
    have hr := hf.r
    have hrod := hf.rod
    by_cases ha : (wi x.Section 0 ((f.Sections.length : Int) - 1) && wi x.R f.Low f.High) = true
    · by_cases hy : wi y.Section 0 ((f.Sections.length : Int) - 1) = true
      · by_cases hc : ((decide ((min (min y.ArmLow y.ArmHigh) (min y.RodLow y.RodHigh)) < 0)) || (decide (6 < (max (max y.ArmLow y.ArmHigh) (max y.RodLow y.RodHigh))))) = true
        · have hc' : (false || (decide ((min (min y.ArmLow y.ArmHigh) (min y.RodLow y.RodHigh)) < 0)) || (decide (6 < (max (max y.ArmLow y.ArmHigh) (max y.RodLow y.RodHigh))))) = true := by rw [Bool.false_or]; exact hc
          simp only [h, p_isAsk hn hl, ha, p_IsSection hn hl, hy, Option.bind_some, Bool.not_true, Bool.false_eq_true, if_false, hc', if_true, hw]
        · simp only [Bool.not_eq_true] at hc
          have hcond : (false || (decide ((min (min y.ArmLow y.ArmHigh) (min y.RodLow y.RodHigh)) < 0)) || (decide (6 < (max (max y.ArmLow y.ArmHigh) (max y.RodLow y.RodHigh))))) = false := by rw [Bool.false_or]; exact hc
          simp only [Bool.or_eq_false_iff, decide_eq_false_iff_not] at hc
          have hyw := wi_t.1 hy
          obtain ⟨j, hj⟩ : ∃ j : Nat, y.Section = (j : Int) := ⟨y.Section.toNat, by omega⟩
          have hjl : j < f.Sections.length := by omega
          have hs := hf.s _ (secAt_mem hjl)
          have hsa := hs.a; have hsb := hs.b
          have eg : geti f.Sections y.Section = some (secAt f j) := by rw [hj, geti_nat]; exact secAt_get hjl
          simp only [h, p_isAsk hn hl, ha, p_IsSection hn hl, hy, Option.bind_some, Bool.not_true, Bool.false_eq_true, if_false, hcond, p_Copy01 hn hl, eg]
          rw [w64_id (n := (secAt f j).Arm.Low + y.ArmLow) (by omega) (by omega), w64_id (n := (secAt f j).Arm.High - y.ArmHigh) (by omega) (by omega), w64_id (n := (secAt f j).Stretch.Low + y.RodLow) (by omega) (by omega), w64_id (n := (secAt f j).Stretch.High - y.RodHigh) (by omega) (by omega)]
          generalize hss : Section.mk (Span.mk ((secAt f j).Arm.Low + y.ArmLow) ((secAt f j).Arm.High - y.ArmHigh)) (Span.mk ((secAt f j).Stretch.Low + y.RodLow) ((secAt f j).Stretch.High - y.RodHigh)) (secAt f j).Base (secAt f j).Gear = s
          have hN : Narrow f j s := by
            subst hss
            exact ⟨hjl, rfl, rfl, by simp only; omega, by simp only; omega, by simp only; omega, by simp only; omega⟩
          have hset : setx f.Sections y.Section s = f.Sections.set j s := by unfold setx; rw [hj]; simp
          rw [hset, show Frame.mk (f.Sections.set j s) f.Low f.High f.Ease f.Rod f.Case = setF f j s from rfl]
          rcases p_ready hn (setF f j s) with h' | ⟨h', hok'⟩
          · simp [h', hw]
          · have hg := okF_iff.1 hok'.1
            have hlg : (setF f j s).Sections.length ≤ 1000 := by have := hg.n; omega
            have hleq : (setF f j s).Sections.length = f.Sections.length := by simp [setF]
            have a1 := ask_zero hok.1 ha
            have a3 := ask_low hok.1 ha
            have ha' : (wi x.Section 0 (((setF f j s).Sections.length : Int) - 1) && wi x.R (setF f j s).Low (setF f j s).High) = true := by rw [hleq]; exact ha
            have a2 := ask_zero hok'.1 ha'
            have a4 := ask_low hok'.1 ha'
            obtain ⟨_, ⟨i1, i2⟩, r1, r2⟩ := askT_ok a1
            have hdist := fun i r => set_dist hN.lt hN.b hN.g i r
            have hsec : ∀ i, i < f.Sections.length → SecOk (secAt (setF f j s) i) := fun i hi => hg.s _ (secAt_mem (by rw [hleq]; exact hi))
            have hsec0 : ∀ i, i < f.Sections.length → SecOk (secAt f i) := fun i hi => hf.s _ (secAt_mem hi)
            -- binds
            have hb : ∀ i, i < f.Sections.length → ∀ r, bindsI f i r = 3 ∨ bindsI f i r = bindsI (setF f j s) i r := fun i hi r => by
              have := K_sub (p := bindsP (dist f i r) f.Ease) (hsec0 i hi) (hsec i hi) (fun x hx => nar_sides hN i hx)
              unfold bindsI
              rw [hdist]
              exact this
            have hst : ∀ i, i < f.Sections.length → stuckI f i = 3 ∨ stuckI f i = stuckI (setF f j s) i := fun i hi => by
              have := K_sub (p := stuckP f i) (hsec0 i hi) (hsec i hi) (fun x hx => nar_sides hN i hx)
              have e : stuckP (setF f j s) i = stuckP f i := by
                funext x
                unfold stuckP
                have : (fun r => bindsP (dist (setF f j s) i r) (setF f j s).Ease x) = fun r => bindsP (dist f i r) f.Ease x := by funext r; rw [hdist]; rfl
                rw [this]; rfl
              unfold stuckI
              rw [e]
              exact this
            have htu : turnsI f x.Section.toNat = 3 ∨ turnsI f x.Section.toNat = turnsI (setF f j s) x.Section.toNat := by
              have := K_sub (p := turnsP f x.Section.toNat) (hsec0 _ i2) (hsec _ i2) (fun x hx => nar_sides hN _ hx)
              have e : turnsP (setF f j s) x.Section.toNat = turnsP f x.Section.toNat := by
                funext z
                unfold turnsP
                have : (fun r => turnQ z (dist (setF f j s) x.Section.toNat (r + 1)) (dist (setF f j s) x.Section.toNat r)) = fun r => turnQ z (dist f x.Section.toNat (r + 1)) (dist f x.Section.toNat r) := by funext r; rw [hdist, hdist]
                rw [this]; rfl
              unfold turnsI
              rw [e]
              exact this
            have hop : opensI f = 3 ∨ opensI f = opensI (setF f j s) := by
              rcases opens_mem f with e | e | e
              · right
                rw [e]
                refine (opens_one.2 fun i hi => ?_).symm
                rw [hleq] at hi
                have q := opens_one.1 e i hi
                rcases hst i hi with k | k
                · rw [q] at k; cases k
                · rw [← k]; exact q
              · right
                rw [e]
                obtain ⟨i, hi, q⟩ := opens_two.1 e
                refine (opens_two.2 ⟨i, by rw [hleq]; exact hi, ?_⟩).symm
                rcases hst i hi with k | k
                · rw [q] at k; cases k
                · rw [← k]; exact q
              · exact .inl e
            have hcl : closesI f = 3 ∨ closesI f = closesI (setF f j s) := by
              have mem : ∀ u ∈ (setF f j s).Sections, ∃ v ∈ f.Sections, v.Arm.Low ≤ u.Arm.Low ∧ u.Arm.High ≤ v.Arm.High := fun u hu => by
                rcases List.mem_or_eq_of_mem_set hu with hu | rfl
                · exact ⟨u, hu, Int.le_refl _, Int.le_refl _⟩
                · exact ⟨secAt f j, secAt_mem hjl, hN.a1, hN.a2⟩
              have mem2 : ∀ v ∈ f.Sections, ∃ u ∈ (setF f j s).Sections, v.Arm.Low ≤ u.Arm.Low := fun v hv => by
                obtain ⟨i, hi⟩ := List.mem_iff_getElem?.1 hv
                have hil := (List.getElem?_eq_some_iff.1 hi).1
                have hv' : secAt f i = v := by have := secAt_get hil; rw [hi] at this; exact (Option.some.inj this).symm
                refine ⟨secAt (setF f j s) i, secAt_mem (by rw [hleq]; exact hil), ?_⟩
                by_cases e : i = j
                · subst e; rw [set_same hN.lt, ← hv']; exact hN.a1
                · rw [set_other e, hv']; exact Int.le_refl _
              have m1 : armHigh (setF f j s) ≤ armHigh f := fold_max_le' _ _ (le_fold_max' f.Sections 0 (g := fun u : Section => u.Arm.High)).1 fun u hu => by
                obtain ⟨v, hv, _, q⟩ := mem u hu
                have := (le_fold_max' f.Sections 0 (g := fun u : Section => u.Arm.High)).2 v hv
                unfold armHigh
                try simp only at this
                omega
              have m2 : armLow f ≤ armLow (setF f j s) := fold_max_le' _ _ (le_fold_max' (setF f j s).Sections 0 (g := fun u : Section => u.Arm.Low)).1 fun v hv => by
                obtain ⟨u, hu, q⟩ := mem2 v hv
                have := (le_fold_max' (setF f j s).Sections 0 (g := fun u : Section => u.Arm.Low)).2 u hu
                unfold armLow
                try simp only at this
                omega
              have e1 : (setF f j s).Rod = f.Rod := rfl
              have e2 : (setF f j s).Case = f.Case := rfl
              unfold closesI
              rw [e1, e2]
              have hah := hf.n
              by_cases c1 : f.Rod + armHigh f ≤ f.Case
              · right; rw [if_pos c1, if_pos (by omega)]
              · by_cases c2 : f.Case < f.Rod + armLow f
                · right
                  rw [if_neg c1, if_pos c2]
                  have hlh : armLow (setF f j s) ≤ armHigh (setF f j s) := fold_max_le' _ _ (le_fold_max' (setF f j s).Sections 0 (g := fun u : Section => u.Arm.High)).1 fun v hv => by
                    have q := (hg.s v hv).a
                    have := (le_fold_max' (setF f j s).Sections 0 (g := fun u : Section => u.Arm.High)).2 v hv
                    unfold armHigh
                    try simp only at this
                    omega
                  rw [if_neg (by omega), if_pos (by omega)]
                · left; rw [if_neg c1, if_neg c2]
            have hfi : (firstT (setF f j s)).2.2 = 0 → (firstT f).2.2 = 0 ∧ (firstT (setF f j s)).2.1 ≤ (firstT f).2.1 := fun h0 => by
              rcases firstT_err hok'.1 with ⟨_, r, i, e1, e2⟩ | ⟨e1, _⟩
              · obtain ⟨⟨q1, q2⟩, ⟨k, rfl, hk, hbk, _⟩, _⟩ := first_some e1
                rw [hleq] at hk
                have q1' : f.Low ≤ r := q1
                have q2' : r ≤ f.High := q2
                have hb' : bindsI f k r ≠ 2 := fun e => by
                  rcases hb k hk r with z | z
                  · rw [e] at z; cases z
                  · rw [e] at z; exact hbk z.symm
                rcases firstT_err hok.1 with ⟨k0, r', i', k1, k2⟩ | ⟨_, k1⟩
                · refine ⟨k0, ?_⟩
                  rw [e2, k2]
                  simp only
                  rcases Int.lt_or_le r' r with hlt | hge
                  · exact absurd ((first_some k1).2.2 r hlt q2' k hk) hb'
                  · exact hge
                · exact absurd (first_none k1 r q1' q2' k hk) hb'
              · rw [e1] at h0; cases h0
            have hfe : (firstT (setF f j s)).2.2 = 0 ∨ (firstT (setF f j s)).2.2 = 3 := by
              rcases firstT_err hok'.1 with ⟨e, _⟩ | ⟨e, _⟩
              · exact .inl e
              · exact .inr e
            -- the cosine
            have hcos : ∃ p108 : Bool, p108 = false ∧ (if (((cosineT f x.Section x.R).2.2 != (cosineT (setF f j s) x.Section x.R).2.2) || (((cosineT f x.Section x.R).2.2 != 0) && ((cosineT f x.Section x.R).2.2 != 3))) = true then (some true) else ((if ((cosineT f x.Section x.R).2.2 == 0) = true then ((F_law01_isFrac n (cosineT f x.Section x.R).1).bind fun y140 => (if (!y140) = true then (some true) else ((F_law01_isFrac n (cosineT f x.Section x.R).2.1).bind fun y145 => some (!y145)) : Option Bool).bind fun p142 => (if p142 = true then (some true) else ((F_law01_isFrac n (cosineT (setF f j s) x.Section x.R).1).bind fun y150 => some (!y150)) : Option Bool).bind fun p147 => (if p147 = true then (some true) else ((F_law01_isFrac n (cosineT (setF f j s) x.Section x.R).2.1).bind fun y155 => some (!y155)) : Option Bool).bind fun p152 => (if p152 = true then (some true) else ((F_ref01_Less n (cosineT (setF f j s) x.Section x.R).1 (cosineT f x.Section x.R).1).bind fun y160 => some y160) : Option Bool).bind fun p157 => (if p157 = true then (some true) else ((F_ref01_Less n (cosineT f x.Section x.R).2.1 (cosineT (setF f j s) x.Section x.R).2.1).bind fun y165 => some y165) : Option Bool).bind fun p162 => some p162) else (some false) : Option Bool).bind fun p137 => some p137) : Option Bool) = some p108 := by
              refine ⟨false, rfl, ?_⟩
              have hd := dist_in hf (r := x.R) (by omega) x.Section.toNat
              by_cases h0 : dist f x.Section.toNat x.R = 0
              · have e1 : cosineT f x.Section x.R = (⟨0, 0⟩, ⟨0, 0⟩, 3) := by unfold cosineT; rw [if_pos a1, if_pos h0]
                have e2 : cosineT (setF f j s) x.Section x.R = (⟨0, 0⟩, ⟨0, 0⟩, 3) := by unfold cosineT; rw [if_pos a2, hdist, if_pos h0]
                rw [e1, e2]; rfl
              · have hd' : 1 ≤ dist f x.Section.toNat x.R ∧ dist f x.Section.toNat x.R ≤ 6000 := by omega
                have e1 : cosineT f x.Section x.R = (red (lowF (dist f x.Section.toNat x.R) (sidesL (secAt f x.Section.toNat))), red (highF (dist f x.Section.toNat x.R) (sidesL (secAt f x.Section.toNat))), 0) := by unfold cosineT; rw [if_pos a1, if_neg h0]
                have e2 : cosineT (setF f j s) x.Section x.R = (red (lowF (dist f x.Section.toNat x.R) (sidesL (secAt (setF f j s) x.Section.toNat))), red (highF (dist f x.Section.toNat x.R) (sidesL (secAt (setF f j s) x.Section.toNat))), 0) := by unfold cosineT; rw [if_pos a2, hdist, if_neg h0]
                have x1 : ∀ y ∈ sidesL (secAt f x.Section.toNat), XOk y := fun y hy => sides_ok (hsec0 _ i2) hy
                have x2 : ∀ y ∈ sidesL (secAt (setF f j s) x.Section.toNat), XOk y := fun y hy => sides_ok (hsec _ i2) hy
                obtain ⟨⟨_, l1⟩, ⟨_, l2⟩⟩ := low_spec hd' _ x1 (sides_ne (hsec0 _ i2))
                obtain ⟨⟨⟨z1, hz1, m1⟩, _⟩, ⟨⟨z2, hz2, m2⟩, _⟩⟩ := low_spec hd' _ x2 (sides_ne (hsec _ i2))
                have o1 := low_ok hd' _ x1 (sides_ne (hsec0 _ i2))
                have o2 := low_ok hd' _ x2 (sides_ne (hsec _ i2))
                have s1 := l1 z1 (nar_sides hN _ hz1)
                have s2 := l2 z2 (nar_sides hN _ hz2)
                rw [← m1] at s1
                rw [← m2] at s2
                rw [e1, e2]
                have fr : ∀ c, FracOk c → F_law01_isFrac n (red c) = some true := fun c hc => by
                  obtain ⟨⟨z1, z2⟩, z3, z4⟩ := red_ok hc
                  simp only [F_law01_isFrac]; simp; omega
                simp only [fr _ o1.1, fr _ o1.2, fr _ o2.1, fr _ o2.2, p_Less n (frac_b (red_ok o2.1)) (frac_b (red_ok o1.1)), p_Less n (frac_b (red_ok o1.2)) (frac_b (red_ok o2.2)), ltF_red o2.1.1.1 o1.1.1.1, ltF_red o1.2.1.1 o2.2.1.1, s1, s2, Option.bind_some]
                simp
            obtain ⟨p108, hp108, hcos⟩ := hcos
            subst hp108
            have eb : bindsT f x.Section x.R = (bindsI f x.Section.toNat x.R, 0) := by unfold bindsT; rw [if_pos a1]
            have eb' : bindsT (setF f j s) x.Section x.R = (bindsI (setF f j s) x.Section.toNat x.R, 0) := by unfold bindsT; rw [if_pos a2]
            have et : turnsT f x.Section = (turnsI f x.Section.toNat, 0) := by unfold turnsT; rw [if_pos a3]
            have et' : turnsT (setF f j s) x.Section = (turnsI (setF f j s) x.Section.toNat, 0) := by unfold turnsT; rw [if_pos a4]
            have eo : opensT f = (opensI f, 0) := by unfold opensT; rw [if_pos hok.1]
            have eo' : opensT (setF f j s) = (opensI (setF f j s), 0) := by unfold opensT; rw [if_pos hok'.1]
            have ec : closesT f = (closesI f, 0) := by unfold closesT; rw [if_pos hok.1]
            have ec' : closesT (setF f j s) = (closesI (setF f j s), 0) := by unfold closesT; rw [if_pos hok'.1]
            have q1 := hb _ i2 x.R
            simp only [h', Option.bind_some, Bool.not_true, Bool.false_eq_true, if_false, p_Cosine hn hl, p_Cosine hn hlg, p_Binds hn hl, p_Binds hn hlg, p_Opens hn hl, p_Opens hn hlg, p_Turns hn hl, p_Turns hn hlg, p_Closes hn hl, p_Closes hn hlg, p_First hn hl, p_First hn hlg, hcos, eb, eb', et, et', eo, eo', ec, ec', hw]
            have d1 : ((bindsI f x.Section.toNat x.R != 3) && (bindsI f x.Section.toNat x.R != bindsI (setF f j s) x.Section.toNat x.R)) = false := by
              rcases q1 with e | e
              · rw [e]; rfl
              · rw [← e]; simp
            have d2 : ((opensI f != 3) && (opensI f != opensI (setF f j s))) = false := by
              rcases hop with e | e
              · rw [e]; rfl
              · rw [← e]; simp
            have d3 : ((turnsI f x.Section.toNat != 3) && (turnsI f x.Section.toNat != turnsI (setF f j s) x.Section.toNat)) = false := by
              rcases htu with e | e
              · rw [e]; rfl
              · rw [← e]; simp
            have d4 : ((closesI f != 3) && (closesI f != closesI (setF f j s))) = false := by
              rcases hcl with e | e
              · rw [e]; rfl
              · rw [← e]; simp
            have d5 : (((firstT (setF f j s)).2.2 != 0) || (((firstT f).2.2 == 0) && (decide ((firstT (setF f j s)).2.1 ≤ (firstT f).2.1)))) = true := by
              rcases hfe with e | e
              · obtain ⟨k1, k2⟩ := hfi e
                rw [k1]; simp [k2]
              · rw [e]; rfl
            simp only [d1, d2, d3, d4, d5]
            simp
      · simp [h, p_isAsk hn hl, ha, p_IsSection hn hl, hy, hw]
    · simp [h, p_isAsk hn hl, ha, hw]
end Go.Proofs.Ytmgnhaibbeinbaa
