/-
  The plain law of FramesLarger.
-/
import Derived.Test.YtmgnhaibbeinbaaPfe
import Derived.Test.YtmgnhaibbeinbaaOpn
namespace Go.Proofs.Ytmgnhaibbeinbaa
open Go Go.RowKit Go.Dec
def singleF (a b r : Int) : Frame := Frame.mk [(Section.mk (Span.mk a a) (Span.mk b b) 0 (Frac.mk 0 1))] r r (Frac.mk 1 10) 0 0
theorem single_ok {a b r : Int} (ha : 1 ≤ a ∧ a ≤ 2000) (hb : 1 ≤ b ∧ b ≤ 2000) (hr : 1 ≤ r ∧ r ≤ 2000) : FOk (singleF a b r) := by
  refine ⟨⟨by simp [singleF], by simp [singleF]⟩, fun s hs => ?_, ⟨hr.1, Int.le_refl _, hr.2, by simp [singleF]⟩, by simp [singleF], by simp [singleF], by simp [singleF]⟩
  simp only [singleF, List.mem_singleton] at hs
  subst hs
  exact ⟨by simp only; omega, by simp only; omega, by simp only; omega, by simp only; omega⟩
theorem single_sides (a b r : Int) : sidesL (secAt (singleF a b r) 0) = [⟨a, b⟩] := by
  have : secAt (singleF a b r) 0 = Section.mk (Span.mk a a) (Span.mk b b) 0 (Frac.mk 0 1) := rfl
  rw [this]
  unfold sidesL
  simp only
  rw [span_cons (Int.le_refl a), span_nil (show a < a + 1 by omega), span_cons (Int.le_refl b), span_nil (show b < b + 1 by omega)]
  rfl
theorem single_dist (a b r : Int) : dist (singleF a b r) 0 r = r := rfl
theorem red_scale {g a b : Int} (hg : 1 ≤ g) (hb : 1 ≤ b) : red ⟨g * a, g * b⟩ = red ⟨a, b⟩ := by
  unfold red
  simp only
  have e : ((Int.gcd (g * a) (g * b) : Nat) : Int) = g * ((Int.gcd a b : Nat) : Int) := by
    rw [Int.gcd_mul_left]
    push_cast
    congr 1
    omega
  have hp : 0 < Int.gcd a b := Int.gcd_pos_of_ne_zero_right _ (by omega)
  rw [e, Int.mul_tdiv_mul_of_pos _ _ (by omega), Int.mul_tdiv_mul_of_pos _ _ (by omega)]
theorem law_FramesLarger (p : ref01_Pair) (r times : Int) (_ : W_ref01_Pair p) (_ : I64 r) (_ : I64 times) : ∃ n, F_law01_FramesLarger n p r times = some true := by
  obtain ⟨n, hn, hw⟩ := works_at
  refine ⟨n, ?_⟩
  simp only [F_law01_FramesLarger]
  by_cases hc : ((((((((decide (times < 1)) || (decide (100 < times))) || (decide (r < 1))) || (decide (2000 < r))) || (decide (p.Arm < 1))) || (decide (2000 < p.Arm))) || (decide (p.Stretch < 1))) || (decide (2000 < p.Stretch))) = true
  · rw [if_pos hc]; simp [hw]
  · rw [if_neg hc]
    simp only [Bool.or_eq_true, decide_eq_true_eq, not_or] at hc
    obtain ⟨⟨⟨⟨⟨⟨⟨h1, h2⟩, h3⟩, h4⟩, h5⟩, h6⟩, h7⟩, h8⟩ := hc
    have m1 := mul_in (show 0 ≤ p.Arm by omega) (show p.Arm ≤ 2000 by omega) (show 0 ≤ times by omega) (show times ≤ 100 by omega)
    have m2 := mul_in (show 0 ≤ p.Stretch by omega) (show p.Stretch ≤ 2000 by omega) (show 0 ≤ times by omega) (show times ≤ 100 by omega)
    have m3 := mul_in (show 0 ≤ r by omega) (show r ≤ 2000 by omega) (show 0 ≤ times by omega) (show times ≤ 100 by omega)
    simp only [F_law01_single, Option.bind_some]
    rw [w64_id (n := p.Arm * times) (by omega) (by omega), w64_id (n := p.Stretch * times) (by omega) (by omega), w64_id (n := r * times) (by omega) (by omega)]
    rw [show Frame.mk [(Section.mk (Span.mk p.Arm p.Arm) (Span.mk p.Stretch p.Stretch) 0 (Frac.mk 0 1))] r r (Frac.mk 1 10) 0 0 = singleF p.Arm p.Stretch r from rfl,
      show Frame.mk [(Section.mk (Span.mk (p.Arm * times) (p.Arm * times)) (Span.mk (p.Stretch * times) (p.Stretch * times)) 0 (Frac.mk 0 1))] (r * times) (r * times) (Frac.mk 1 10) 0 0 = singleF (p.Arm * times) (p.Stretch * times) (r * times) from rfl]
    have l1 : (singleF p.Arm p.Stretch r).Sections.length ≤ 1000 := by simp [singleF]
    have l2 : (singleF (p.Arm * times) (p.Stretch * times) (r * times)).Sections.length ≤ 1000 := by simp [singleF]
    rw [p_Check01 hn l2]
    by_cases ho : okF (singleF (p.Arm * times) (p.Stretch * times) (r * times)) = true
    · have hf := single_ok (a := p.Arm) (b := p.Stretch) (r := r) (by omega) (by omega) (by omega)
      have hg := okF_iff.1 ho
      have hgr : 1 ≤ r * times ∧ r * times ≤ 2000 := by have := hg.r; exact ⟨this.1, this.2.2.1⟩
      have a1 : askT (singleF p.Arm p.Stretch r) 0 r = 0 := ask_zero (okF_iff.2 hf) (by simp [wi, singleF])
      have a2 : askT (singleF (p.Arm * times) (p.Stretch * times) (r * times)) 0 (r * times) = 0 := ask_zero ho (by simp [wi, singleF])
      have d1 : dist (singleF p.Arm p.Stretch r) (0 : Int).toNat r = r := rfl
      have d2 : dist (singleF (p.Arm * times) (p.Stretch * times) (r * times)) (0 : Int).toNat (r * times) = r * times := rfl
      have s1 : sidesL (secAt (singleF p.Arm p.Stretch r) (0 : Int).toNat) = [⟨p.Arm, p.Stretch⟩] := single_sides _ _ _
      have s2 : sidesL (secAt (singleF (p.Arm * times) (p.Stretch * times) (r * times)) (0 : Int).toNat) = [⟨p.Arm * times, p.Stretch * times⟩] := single_sides _ _ _
      have hx : XOk ⟨p.Arm, p.Stretch⟩ := ⟨by simp only; omega, by simp only; omega⟩
      have hcd := (cos_ok (d := r) (by omega) hx).1.1.1
      have ht2 : 1 ≤ times * times := by
        have := Int.mul_le_mul (show (1 : Int) ≤ times by omega) (show (1 : Int) ≤ times by omega) (by omega) (by omega)
        omega
      have e1 : cosF (r * times) ⟨p.Arm * times, p.Stretch * times⟩ = ⟨times * times * (cosF r ⟨p.Arm, p.Stretch⟩).Num, times * times * (cosF r ⟨p.Arm, p.Stretch⟩).Den⟩ := by
        simp only [cosF]
        congr 1
        · rw [Int.mul_sub, Int.mul_add]
          simp [Int.mul_comm, Int.mul_left_comm, Int.mul_assoc]
        · simp [Int.mul_comm, Int.mul_left_comm, Int.mul_assoc]
      have e2 : red (cosF (r * times) ⟨p.Arm * times, p.Stretch * times⟩) = red (cosF r ⟨p.Arm, p.Stretch⟩) := by
        rw [e1, red_scale ht2 hcd]
      have c1 : cosineT (singleF p.Arm p.Stretch r) 0 r = (red (cosF r ⟨p.Arm, p.Stretch⟩), red (cosF r ⟨p.Arm, p.Stretch⟩), 0) := by
        unfold cosineT
        rw [if_pos a1, d1, if_neg (by omega), s1]
        rfl
      have c2 : cosineT (singleF (p.Arm * times) (p.Stretch * times) (r * times)) 0 (r * times) = (red (cosF r ⟨p.Arm, p.Stretch⟩), red (cosF r ⟨p.Arm, p.Stretch⟩), 0) := by
        unfold cosineT
        rw [if_pos a2, d2, if_neg (by omega), s2, ← e2]
        rfl
      have hb : bindsP (r * times) ⟨1, 10⟩ ⟨p.Arm * times, p.Stretch * times⟩ = bindsP r ⟨1, 10⟩ ⟨p.Arm, p.Stretch⟩ := by
        unfold bindsP
        have z1 : (r * times == 0) = false := by simp only [beq_eq_false_iff_ne]; omega
        have z2 : (r == 0) = false := by simp only [beq_eq_false_iff_ne]; omega
        rw [z1, z2, e1]
        have q1 := ltF_scale (g := times * times) (g' := 1) (a := (cosF r ⟨p.Arm, p.Stretch⟩).Num) (b := (cosF r ⟨p.Arm, p.Stretch⟩).Den) (c := 10 - 1) (d := 10) ht2 (by omega)
        have q2 := ltF_scale (g := 1) (g' := times * times) (a := -(10 - 1)) (b := 10) (c := (cosF r ⟨p.Arm, p.Stretch⟩).Num) (d := (cosF r ⟨p.Arm, p.Stretch⟩).Den) (by omega) ht2
        simp only [Int.one_mul] at q1 q2
        rw [q1, q2]
      have b1 : bindsT (singleF p.Arm p.Stretch r) 0 r = (knownI (if bindsP r ⟨1, 10⟩ ⟨p.Arm, p.Stretch⟩ = true then 1 else 0) 1, 0) := by
        unfold bindsT bindsI K
        rw [if_pos a1, d1, s1]
        simp only [List.countP_cons, List.countP_nil, List.length_cons, List.length_nil, Nat.zero_add]
        rfl
      have b2 : bindsT (singleF (p.Arm * times) (p.Stretch * times) (r * times)) 0 (r * times) = (knownI (if bindsP r ⟨1, 10⟩ ⟨p.Arm, p.Stretch⟩ = true then 1 else 0) 1, 0) := by
        unfold bindsT bindsI K
        rw [if_pos a2, d2, s2, ← hb]
        simp only [List.countP_cons, List.countP_nil, List.length_cons, List.length_nil, Nat.zero_add]
        rfl
      simp only [ho, if_true, bne_self_eq_false, Bool.false_eq_true, if_false, Option.bind_some, p_Cosine hn l1, p_Cosine hn l2, p_Binds hn l1, p_Binds hn l2, c1, c2, b1, b2, hw]
      cases bindsP r ⟨1, 10⟩ ⟨p.Arm, p.Stretch⟩ <;> simp [knownI]
    · simp [ho, hw]
end Go.Proofs.Ytmgnhaibbeinbaa
