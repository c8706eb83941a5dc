/-
  The plain law of FramesEase.
-/
import Derived.Test.YtmgnhaibbeinbaaPfe
import Derived.Test.YtmgnhaibbeinbaaOpn
namespace Go.Proofs.Ytmgnhaibbeinbaa
open Go Go.RowKit Go.Dec
def withEase (f : Frame) (e : Frac) : Frame := Frame.mk f.Sections f.Low f.High e f.Rod f.Case
/-- with more ease more binds -/
theorem binds_more {d : Int} (hd : 0 ≤ d ∧ d ≤ 6000) {x : frames_sides} (hx : XOk x) {e m : Frac} (he : 1 ≤ e.Den ∧ e.Den ≤ 20 ∧ 0 ≤ e.Num ∧ e.Num ≤ e.Den) (hm : 1 ≤ m.Den ∧ m.Den ≤ 20 ∧ 0 ≤ m.Num ∧ m.Num ≤ m.Den) (hle : ltF m e = false) (h : bindsP d e x = true) : bindsP d m x = true := by
  unfold bindsP at h ⊢
  by_cases h0 : d = 0
  · simp [h0]
  · have e0 : (d == 0) = false := by simpa using h0
    rw [e0] at h ⊢
    simp only [Bool.false_or, Bool.or_eq_true, Bool.not_eq_true'] at h ⊢
    have hc := (cos_ok (d := d) (by omega) hx).1.1.1
    have k1 : ltF ⟨e.Den - e.Num, e.Den⟩ ⟨m.Den - m.Num, m.Den⟩ = false := by
      simp only [ltF, decide_eq_false_iff_not, Int.not_lt] at hle ⊢
      rw [Int.sub_mul, Int.sub_mul, Int.mul_comm e.Den m.Den]
      omega
    have k2 : ltF ⟨-(m.Den - m.Num), m.Den⟩ ⟨-(e.Den - e.Num), e.Den⟩ = false := by
      simp only [ltF, decide_eq_false_iff_not, Int.not_lt] at hle ⊢
      rw [Int.neg_mul, Int.neg_mul, Int.sub_mul, Int.sub_mul, Int.mul_comm e.Den m.Den]
      omega
    rcases h with h | h
    · exact .inl (ltF_trans (x := cosF d x) (y := ⟨e.Den - e.Num, e.Den⟩) (z := ⟨m.Den - m.Num, m.Den⟩) hc he.1 hm.1 h k1)
    · exact .inr (ltF_trans (x := ⟨-(m.Den - m.Num), m.Den⟩) (y := ⟨-(e.Den - e.Num), e.Den⟩) (z := cosF d x) hm.1 he.1 hc k2 h)
theorem binds_all {d : Int} {x : frames_sides} {m : Frac} (hm : m.Den ≤ m.Num ∧ m.Num ≤ m.Den) : bindsP d m x = true := by
  unfold bindsP
  have e : m.Den - m.Num = 0 := by omega
  rw [e]
  simp only [ltF, Int.zero_mul, Int.neg_zero, Bool.or_eq_true, Bool.not_eq_true', decide_eq_false_iff_not]
  by_cases h0 : d = 0
  · simp [h0]
  · omega
theorem law_FramesEase (f : Frame) (more : Frac) (x : law01_Ask) (_ : W_Frame f) (_ : W_Frac more) (_ : W_law01_Ask x) : ∃ n, F_law01_FramesEase n f more x = some true := by
  obtain ⟨n, hn, hw⟩ := works_at
  refine ⟨n, ?_⟩
  simp only [F_law01_FramesEase]
  rw [show Frame.mk f.Sections f.Low f.High more f.Rod f.Case = withEase f more from rfl]
  rcases p_ready hn f with h | ⟨h, hok⟩
  · simp [h, hw]
  · rcases p_ready hn (withEase f more) with h' | ⟨h', hok'⟩
    · simp [h, h', hw]
    · have hf := okF_iff.1 hok.1
      have hg := okF_iff.1 hok'.1
      have hl : f.Sections.length ≤ 1000 := by have := hf.n; omega
      have hl' : (withEase f more).Sections.length ≤ 1000 := hl
      have he := hf.e
      have hm : 1 ≤ more.Den ∧ more.Den ≤ 20 ∧ 0 ≤ more.Num ∧ more.Num ≤ more.Den := hg.e
      have hr := hf.r
      by_cases ha : (wi x.Section 0 ((f.Sections.length : Int) - 1) && wi x.R f.Low f.High) = true
      · by_cases hle : ltF more f.Ease = true
        · simp [h, h', p_isAsk hn hl, ha, p_Less n (show _ ≤ more.Num ∧ more.Num ≤ _ ∧ 0 ≤ more.Den ∧ more.Den ≤ _ by omega) (show _ ≤ f.Ease.Num ∧ f.Ease.Num ≤ _ ∧ 0 ≤ f.Ease.Den ∧ f.Ease.Den ≤ _ by omega), hle, hw]
        · simp only [Bool.not_eq_true] at hle
          have a1 := ask_zero hok.1 ha
          have a2 : askT (withEase f more) x.Section x.R = 0 := ask_zero hok'.1 ha
          obtain ⟨_, ⟨i1, i2⟩, r1, r2⟩ := askT_ok a1
          have hsx := hf.s _ (secAt_mem i2)
          -- more binds
          have mono : ∀ i, i < f.Sections.length → ∀ r, f.Low ≤ r → r ≤ f.High → ∀ y ∈ sidesL (secAt f i), bindsP (dist f i r) f.Ease y = true → bindsP (dist f i r) more y = true := fun i hi r q1 q2 y hy hb =>
            binds_more (dist_in hf (r := r) (by omega) i) (sides_ok (hf.s _ (secAt_mem hi)) hy) he hm hle hb
          have mono1 : ∀ i, i < f.Sections.length → ∀ r, f.Low ≤ r → r ≤ f.High → (bindsI f i r = 1 → bindsI (withEase f more) i r = 1) ∧ (bindsI (withEase f more) i r = 2 → bindsI f i r = 2) := fun i hi r q1 q2 => by
            have hs := hf.s _ (secAt_mem hi)
            constructor
            · intro hb
              exact K_one.2 fun y hy => mono i hi r q1 q2 y hy (K_one.1 hb y hy)
            · intro hb
              refine (K_two hs).2 fun y hy => ?_
              cases hby : bindsP (dist f i r) f.Ease y with
              | false => rfl
              | true =>
                have k1 := (K_two hs (p := bindsP (dist f i r) more)).1 hb y hy
                rw [mono i hi r q1 q2 y hy hby] at k1; cases k1
          have mono2 : ∀ i, i < f.Sections.length → (stuckI f i = 1 → stuckI (withEase f more) i = 1) ∧ (stuckI (withEase f more) i = 2 → stuckI f i = 2) := fun i hi => by
            constructor
            · intro hb
              refine K_one.2 fun y hy => ?_
              have := K_one.1 hb y hy
              unfold stuckP at this ⊢
              rw [List.any_eq_true] at this ⊢
              obtain ⟨r, hr, hb⟩ := this
              have hr' := down_mem.1 hr
              exact ⟨r, hr, mono i hi r hr'.1 hr'.2 y hy hb⟩
            · intro hb
              refine (stuck_two hf hi).2 fun r q1 q2 => (mono1 i hi r q1 q2).2 ((stuck_two hg hi).1 hb r q1 q2)
          have m1 := (mono1 x.Section.toNat i2 x.R r1 r2).1
          have m2 := (mono1 x.Section.toNat i2 x.R r1 r2).2
          have m3 : opensI f = 2 → opensI (withEase f more) = 2 := fun h => by
            obtain ⟨i, hi, hb⟩ := opens_two.1 h
            exact opens_two.2 ⟨i, hi, (mono2 i hi).1 hb⟩
          have m4 : opensI (withEase f more) = 1 → opensI f = 1 := fun h => opens_one.2 fun i hi => (mono2 i hi).2 (opens_one.1 h i hi)
          have m5 : (firstT f).2.2 = 0 → (firstT (withEase f more)).2.2 = 0 ∧ (firstT f).2.1 ≤ (firstT (withEase f more)).2.1 := fun h0 => by
            rcases firstT_err hok.1 with ⟨_, r, i, e1, e2⟩ | ⟨e1, _⟩
            · obtain ⟨⟨q1, q2⟩, ⟨j, rfl, hj, hb, _⟩, _⟩ := first_some e1
              have hb' : bindsI (withEase f more) j r ≠ 2 := fun e => hb ((mono1 j hj r q1 q2).2 e)
              rcases firstT_err hok'.1 with ⟨k0, r', i', k1, k2⟩ | ⟨_, k1⟩
              · refine ⟨k0, ?_⟩
                rw [e2, k2]
                simp only
                rcases Int.lt_or_le r' r with hlt | hge
                · exact absurd ((first_some k1).2.2 r hlt q2 j hj) hb'
                · exact hge
              · exact absurd (first_none k1 r q1 q2 j hj) hb'
            · rw [e1] at h0; cases h0
          have m6 : ¬ more.Num < more.Den → bindsI (withEase f more) x.Section.toNat x.R = 1 ∧ opensI (withEase f more) = 2 ∧ (firstT (withEase f more)).2.2 = 0 ∧ (firstT (withEase f more)).2.1 = f.High := fun hnl => by
            have hall : ∀ (d : Int) (y : frames_sides), bindsP d more y = true := fun d y => binds_all (by omega)
            have b1 : ∀ i r, bindsI (withEase f more) i r = 1 := fun i r => K_one.2 fun y _ => hall _ y
            refine ⟨b1 _ _, opens_two.2 ⟨0, by have := hf.n; exact this.1, K_one.2 fun y _ => ?_⟩, ?_⟩
            · unfold stuckP
              rw [List.any_eq_true]
              exact ⟨f.High, down_mem.2 (show f.Low ≤ f.High ∧ f.High ≤ f.High by omega), hall _ y⟩
            · rcases firstT_err hok'.1 with ⟨k0, r', i', k1, k2⟩ | ⟨_, k1⟩
              · refine ⟨k0, ?_⟩
                rw [k2]
                obtain ⟨⟨q1, q2⟩, _, q3⟩ := first_some k1
                have q1' : f.Low ≤ r' := q1
                have q2' : r' ≤ f.High := q2
                rcases Int.lt_or_le r' f.High with hlt | hge
                · have := q3 f.High hlt (Int.le_refl _) 0 (by have := hf.n; exact this.1)
                  rw [b1] at this; cases this
                · simp only; omega
              · have := first_none k1 f.High hr.2.1 (Int.le_refl _) 0 (by have := hf.n; exact this.1)
                rw [b1] at this; cases this
          have q1 := K_mem (secAt f x.Section.toNat) (bindsP (dist f x.Section.toNat x.R) f.Ease)
          have eb : bindsT f x.Section x.R = (bindsI f x.Section.toNat x.R, 0) := by unfold bindsT; rw [if_pos a1]
          have eb' : bindsT (withEase f more) x.Section x.R = (bindsI (withEase f more) x.Section.toNat x.R, 0) := by unfold bindsT; rw [if_pos a2]
          have eo : opensT f = (opensI f, 0) := by unfold opensT; rw [if_pos hok.1]
          have eo' : opensT (withEase f more) = (opensI (withEase f more), 0) := by unfold opensT; rw [if_pos hok'.1]
          simp only [h, h', p_isAsk hn hl, ha, p_Less n (show _ ≤ more.Num ∧ more.Num ≤ _ ∧ 0 ≤ more.Den ∧ more.Den ≤ _ by omega) (show _ ≤ f.Ease.Num ∧ f.Ease.Num ≤ _ ∧ 0 ≤ f.Ease.Den ∧ f.Ease.Den ≤ _ by omega), hle, hw, Option.bind_some, Bool.not_true, Bool.false_eq_true, if_false, p_Binds hn hl, p_Binds hn hl', p_Opens hn hl, p_Opens hn hl', p_First hn hl, p_First hn hl', eb, eb', eo, eo']
          generalize bindsI f x.Section.toNat x.R = B at *
          generalize bindsI (withEase f more) x.Section.toNat x.R = B' at *
          generalize opensI f = O at *
          generalize opensI (withEase f more) = O' at *
          generalize firstT f = F at *
          generalize firstT (withEase f more) = F' at *
          have c1 : ((B == 1) && (B' != 1)) = false := by
            by_cases hb : B = 1
            · simp [hb, m1 hb]
            · simp [hb]
          have c2 : ((B' == 2) && (B != 2)) = false := by
            by_cases hb : B' = 2
            · simp [hb, m2 hb]
            · simp [hb]
          have c3 : ((O == 2) && (O' != 2)) = false := by
            by_cases hb : O = 2
            · simp [hb, m3 hb]
            · simp [hb]
          have c4 : ((O' == 1) && (O != 1)) = false := by
            by_cases hb : O' = 1
            · simp [hb, m4 hb]
            · simp [hb]
          have c5 : ((F.2.2 == 0) && ((F'.2.2 != 0) || decide (F'.2.1 < F.2.1))) = false := by
            by_cases hb : F.2.2 = 0
            · obtain ⟨j1, j2⟩ := m5 hb
              simp [hb, j1]; omega
            · simp [hb]
          have c6 : (decide (more.Num < more.Den) || ((((B' == 1) && (O' == 2)) && (F'.2.2 == 0)) && (F'.2.1 == f.High))) = true := by
            by_cases hb : more.Num < more.Den
            · simp [hb]
            · obtain ⟨j1, j2, j3, j4⟩ := m6 hb
              simp [j1, j2, j3, j4]
          simp only [c1, c2, c3, c4, c5, c6]
          simp
      · simp [h, h', p_isAsk hn hl, ha, hw]
end Go.Proofs.Ytmgnhaibbeinbaa
