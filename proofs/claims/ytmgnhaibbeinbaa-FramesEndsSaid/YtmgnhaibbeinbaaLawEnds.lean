/-
  The plain law of FramesEnds.
-/
import Derived.Test.YtmgnhaibbeinbaaPfe
import Derived.Test.YtmgnhaibbeinbaaOpn
namespace Go.Proofs.Ytmgnhaibbeinbaa
open Go Go.RowKit Go.Dec
theorem law_FramesEnds (f : Frame) (x : law01_Ask) (_ : W_Frame f) (_ : W_law01_Ask x) : ∃ n, F_law01_FramesEnds n f x = some true := by
  obtain ⟨n, hn, hw⟩ := works_at
  refine ⟨n, ?_⟩
  simp only [F_law01_FramesEnds]
  rcases p_ready hn f with h | ⟨h, hok⟩
  · simp [h, hw]
  · have hf := okF_iff.1 hok.1
    have hl : f.Sections.length ≤ 1000 := by have := hf.n; omega
    have hr := hf.r
    by_cases ha : (wi x.Section 0 ((f.Sections.length : Int) - 1) && wi x.R f.Low f.High) = true
    · have a1 := ask_zero hok.1 ha
      obtain ⟨_, ⟨i1, i2⟩, r1, r2⟩ := askT_ok a1
      have hs := hf.s _ (secAt_mem i2)
      have hd := dist_in hf (r := x.R) (by omega) x.Section.toNat
      have hlen := sides_len hs
      have hlen2 := pairs_len hn (secAt f x.Section.toNat)
      have ep := p_Pairs hn hf i2
      rw [← i1] at ep
      have eb : bindsT f x.Section x.R = (bindsI f x.Section.toNat x.R, 0) := by unfold bindsT; rw [if_pos a1]
      have ed : distanceT f x.Section x.R = (dist f x.Section.toNat x.R, 0) := by unfold distanceT; rw [if_pos a1]
      simp only [h, p_isAsk hn hl, ha, Option.bind_some, Bool.not_true, Bool.false_eq_true, if_false, p_Cosine hn hl, p_Binds hn hl, p_Distance hn hl, eb, ed, ep]
      -- the count
      let cnt : Nat := (sidesL (secAt f x.Section.toNat)).countP (bindsP (dist f x.Section.toNat x.R) f.Ease)
      have hcnt : cnt = (sidesL (secAt f x.Section.toNat)).countP (bindsP (dist f x.Section.toNat x.R) f.Ease) := rfl
      have hpos := sides_pos hs
      have k1 : bindsI f x.Section.toNat x.R = 1 ↔ cnt = (sidesL (secAt f x.Section.toNat)).length := knownI_one
      have k2 : bindsI f x.Section.toNat x.R = 2 ↔ cnt = 0 := knownI_two hpos
      -- the loop
      have hBA : ∀ p ∈ pairsL (secAt f x.Section.toNat), F_ref01_BindsAt n f x.Section x.R p = some (bindsP (dist f x.Section.toNat x.R) f.Ease (toS p)) := fun p hp => by
        have := p_BindsAt hn hf i2 ⟨r1, r2⟩ (pairs_ok hn hs hp)
        rw [← i1] at this; exact this
      have hloop : loopO n (F_law01_FramesEnds_s1 n f x (cosineT f x.Section x.R) (dist f x.Section.toNat x.R, 0) (pairsL (secAt f x.Section.toNat))) (((cosineT f x.Section x.R).2.2 != 0), ((cosineT f x.Section x.R).2.2 != 0), 0, 0) = some (true, true, (cnt : Int)) := by
        by_cases h0 : dist f x.Section.toNat x.R = 0
        · have ec : cosineT f x.Section x.R = (⟨0, 0⟩, ⟨0, 0⟩, 3) := by unfold cosineT; rw [if_pos a1, if_pos h0]
          rw [ec]
          have := loop_fold (step := F_law01_FramesEnds_s1 n f x (⟨0, 0⟩, ⟨0, 0⟩, 3) (dist f x.Section.toNat x.R, 0) (pairsL (secAt f x.Section.toNat))) (pairsL (secAt f x.Section.toNat)) (fun i (c : Int) => (true, true, c, (i : Int))) (fun c p => if bindsP (dist f x.Section.toNat x.R) f.Ease (toS p) = true then c + 1 else c) (fun c => (true, true, c)) (fun i c => 0 ≤ c ∧ c ≤ i) (n := n) (0 : Int) (by omega) (fun i p c hp hc => by
            have hi := (List.getElem?_eq_some_iff.1 hp).1
            have hm := List.mem_of_getElem? hp
            refine ⟨?_, by split <;> omega⟩
            simp only [F_law01_FramesEnds_s1, geti_nat, hp, lt_nat, hi, decide_true, if_true, Option.bind_some, p_CosineOf hn hd (pairs_ok hn hs hm), h0, Bool.false_eq_true, if_false, hBA p hm, w64_nat (show i ≤ 4611686018427387904 by omega)]
            rw [w64_id (n := c + 1) (by omega) (by omega)]
            cases bindsP 0 f.Ease (toS p) <;> rfl) (fun c _ => by simp [F_law01_FramesEnds_s1]) (by omega)
          simp only [Int.natCast_zero] at this
          rw [foldl_count, count_pairs hn (secAt f x.Section.toNat) (bindsP (dist f x.Section.toNat x.R) f.Ease)] at this
          rw [show ((3 : Int) != 0) = true from rfl, this.1, Int.zero_add]
        · have hd' : 1 ≤ dist f x.Section.toNat x.R ∧ dist f x.Section.toNat x.R ≤ 6000 := by omega
          have ec : cosineT f x.Section x.R = (red (lowF (dist f x.Section.toNat x.R) (sidesL (secAt f x.Section.toNat))), red (highF (dist f x.Section.toNat x.R) (sidesL (secAt f x.Section.toNat))), 0) := by unfold cosineT; rw [if_pos a1, if_neg h0]
          obtain ⟨⟨⟨y1, hy1, e1⟩, _⟩, ⟨y2, hy2, e2⟩, _⟩ := low_spec hd' (sidesL (secAt f x.Section.toNat)) (fun x hx => sides_ok hs hx) (sides_ne hs)
          rw [ec]
          generalize lowF (dist f x.Section.toNat x.R) (sidesL (secAt f x.Section.toNat)) = lo at *
          generalize highF (dist f x.Section.toNat x.R) (sidesL (secAt f x.Section.toNat)) = hi' at *
          let E1 : ref01_Pair → Bool := fun p => ((red (cosF (dist f x.Section.toNat x.R) (toS p))).Num == (red lo).Num) && ((red (cosF (dist f x.Section.toNat x.R) (toS p))).Den == (red lo).Den)
          let E2 : ref01_Pair → Bool := fun p => ((red (cosF (dist f x.Section.toNat x.R) (toS p))).Num == (red hi').Num) && ((red (cosF (dist f x.Section.toNat x.R) (toS p))).Den == (red hi').Den)
          have := loop_fold (step := F_law01_FramesEnds_s1 n f x (red lo, red hi', 0) (dist f x.Section.toNat x.R, 0) (pairsL (secAt f x.Section.toNat))) (pairsL (secAt f x.Section.toNat)) (fun i (z : (Bool × Bool) × Int) => (z.1.1, z.1.2, z.2, (i : Int))) (fun z p => ((z.1.1 || E1 p, z.1.2 || E2 p), if bindsP (dist f x.Section.toNat x.R) f.Ease (toS p) = true then z.2 + 1 else z.2)) (fun z => (z.1.1, z.1.2, z.2)) (fun i z => 0 ≤ z.2 ∧ z.2 ≤ i) (n := n) ((false, false), 0) (by simp) (fun i p z hp hc => by
            have hi := (List.getElem?_eq_some_iff.1 hp).1
            have hm := List.mem_of_getElem? hp
            refine ⟨?_, by simp only; split <;> omega⟩
            simp only [F_law01_FramesEnds_s1, geti_nat, hp, lt_nat, hi, decide_true, if_true, Option.bind_some, p_CosineOf hn hd (pairs_ok hn hs hm), h0, if_false, hBA p hm, w64_nat (show i ≤ 4611686018427387904 by omega)]
            rw [w64_id (n := z.2 + 1) (by omega) (by omega)]
            cases bindsP (dist f x.Section.toNat x.R) f.Ease (toS p) <;> rfl) (fun c _ => by simp [F_law01_FramesEnds_s1]) (by omega)
          simp only [Int.natCast_zero] at this
          have hfold : ∀ (l : List ref01_Pair) (a b : Bool) (c : Int), l.foldl (fun (z : (Bool × Bool) × Int) p => ((z.1.1 || E1 p, z.1.2 || E2 p), if bindsP (dist f x.Section.toNat x.R) f.Ease (toS p) = true then z.2 + 1 else z.2)) ((a, b), c) = ((a || l.any E1, b || l.any E2), c + (l.countP (fun p => bindsP (dist f x.Section.toNat x.R) f.Ease (toS p)) : Nat)) := by
            intro l
            induction l with
            | nil => intro a b c; simp
            | cons p l ih =>
              intro a b c
              rw [List.foldl_cons, ih, List.any_cons, List.any_cons, List.countP_cons, Bool.or_assoc, Bool.or_assoc]
              cases bindsP (dist f x.Section.toNat x.R) f.Ease (toS p) <;> simp; omega
          have hm1 : toP y1 ∈ pairsL (secAt f x.Section.toNat) := List.mem_map.2 ⟨y1, hy1, rfl⟩
          have hm2 : toP y2 ∈ pairsL (secAt f x.Section.toNat) := List.mem_map.2 ⟨y2, hy2, rfl⟩
          have any1 : (pairsL (secAt f x.Section.toNat)).any E1 = true := by
            rw [List.any_eq_true]; refine ⟨_, hm1, ?_⟩
            show ((red (cosF _ y1)).Num == (red lo).Num && (red (cosF _ y1)).Den == (red lo).Den) = true
            rw [e1]; simp
          have any2 : (pairsL (secAt f x.Section.toNat)).any E2 = true := by
            rw [List.any_eq_true]; refine ⟨_, hm2, ?_⟩
            show ((red (cosF _ y2)).Num == (red hi').Num && (red (cosF _ y2)).Den == (red hi').Den) = true
            rw [e2]; simp
          rw [hfold, any1, any2, count_pairs hn (secAt f x.Section.toNat) (bindsP (dist f x.Section.toNat x.R) f.Ease)] at this
          rw [show ((0 : Int) != 0) = false from rfl, this.1]
          simp only [Bool.or_true, Int.zero_add]
          rfl
      rw [hloop]
      have hcos : ((cosineT f x.Section x.R).2.2 = 0 ∧ dist f x.Section.toNat x.R ≠ 0) ∨ ((cosineT f x.Section x.R).2.2 = 3 ∧ dist f x.Section.toNat x.R = 0) := by
        by_cases h0 : dist f x.Section.toNat x.R = 0
        · right; refine ⟨?_, h0⟩; unfold cosineT; rw [if_pos a1, if_pos h0]
        · left; refine ⟨?_, h0⟩; unfold cosineT; rw [if_pos a1, if_neg h0]
      generalize (cosineT f x.Section x.R).2.2 = E at *
      have c1 : ((((((0 : Int) != 0) || ((0 : Int) != 0)) || ((E != 0) && (E != 3))) || ((E == 3) != (dist f x.Section.toNat x.R == 0))) || (decide (dist f x.Section.toNat x.R < 0)) || (decide (20000 < dist f x.Section.toNat x.R))) = false := by
        have q1 : decide (dist f x.Section.toNat x.R < 0) = false := by simp; omega
        have q2 : decide (20000 < dist f x.Section.toNat x.R) = false := by simp; omega
        rw [q1, q2]
        rcases hcos with ⟨e1, e2⟩ | ⟨e1, e2⟩
        · have : (dist f x.Section.toNat x.R == 0) = false := by simpa using e2
          rw [e1, this]; rfl
        · rw [e1, e2]; rfl
      have c2 : ((bindsI f x.Section.toNat x.R == 1) != ((cnt : Int) == ((pairsL (secAt f x.Section.toNat)).length : Int))) = false := by
        rw [hlen2]
        by_cases hb : cnt = (sidesL (secAt f x.Section.toNat)).length
        · have q := k1.2 hb
          rw [q, hb]; simp
        · have q : (bindsI f x.Section.toNat x.R == 1) = false := by simp only [beq_eq_false_iff_ne]; exact fun e => hb (k1.1 e)
          have q' : ((cnt : Int) == ((sidesL (secAt f x.Section.toNat)).length : Int)) = false := by simp only [beq_eq_false_iff_ne]; omega
          rw [q, q']; rfl
      have c3 : ((bindsI f x.Section.toNat x.R == 2) != ((cnt : Int) == 0)) = false := by
        by_cases hb : cnt = 0
        · have q := k2.2 hb
          rw [q, hb]; rfl
        · have q : (bindsI f x.Section.toNat x.R == 2) = false := by simp only [beq_eq_false_iff_ne]; exact fun e => hb (k2.1 e)
          have q' : ((cnt : Int) == 0) = false := by simp only [beq_eq_false_iff_ne]; omega
          rw [q, q']; rfl
      simp only [c1, c2, c3, Option.bind_some, Bool.not_true, Bool.or_false, Bool.false_eq_true, if_false, p_First hn hl]
      rcases firstT_err hok.1 with ⟨q0, r, i, q1, q2⟩ | ⟨q0, q1⟩
      · obtain ⟨⟨b1, b2⟩, ⟨j, rfl, hj, hb, hjmin⟩, hmax⟩ := first_some q1
        rw [q2]
        have ask2 : askT f j r = 0 := ask_zero hok.1 (by simp only [Bool.and_eq_true, wi_t]; omega)
        have eb2 : bindsT f j r = (bindsI f j r, 0) := by unfold bindsT; rw [if_pos ask2]; simp
        have fin : ((((cnt : Int) == 0) || (decide (x.R < r))) || ((x.R == r) && (decide ((j : Int) ≤ x.Section)))) = true := by
          by_cases hc0 : cnt = 0
          · simp [hc0]
          · have hb2 : bindsI f x.Section.toNat x.R ≠ 2 := fun e => hc0 (k2.1 e)
            have hle : x.R ≤ r := by
              rcases Int.lt_or_le r x.R with hlt | hge
              · exact absurd (hmax x.R hlt r2 _ i2) hb2
              · exact hge
            rcases Int.lt_or_eq_of_le hle with hlt | heq
            · simp [hlt]
            · have : j ≤ x.Section.toNat := by
                rcases Nat.lt_or_ge x.Section.toNat j with hlt | hge
                · rw [heq] at hb2; exact absurd (hjmin _ hlt) hb2
                · exact hge
              have : (j : Int) ≤ x.Section := by omega
              simp [heq, this]
        have hb' : (bindsI f j r != 2) = true := by simpa using hb
        simp only [bne_self_eq_false, Bool.false_eq_true, if_false, p_Binds hn hl, eb2, Option.bind_some]
        rw [hb']
        simp only [beq_self_eq_true, Bool.true_and]
        rw [fin]
        simp [hw]
      · have hc0 : cnt = 0 := k2.1 (first_none q1 x.R r1 r2 _ i2)
        rw [q0, hc0]
        simp [hw]
    · simp [h, p_isAsk hn hl, ha, hw]
end Go.Proofs.Ytmgnhaibbeinbaa
