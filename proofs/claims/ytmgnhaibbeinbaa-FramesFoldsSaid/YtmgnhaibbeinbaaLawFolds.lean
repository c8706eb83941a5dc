/-
  The plain law of FramesFolds.
-/
import Derived.Test.YtmgnhaibbeinbaaPfe
import Derived.Test.YtmgnhaibbeinbaaOpn
namespace Go.Proofs.Ytmgnhaibbeinbaa
open Go Go.RowKit Go.Dec
def takeF (f : Frame) (i : Nat) : Frame := Frame.mk (f.Sections.take (i + 1)) f.Low f.High f.Ease f.Rod f.Case
theorem take_ok {f : Frame} (hf : FOk f) (i : Nat) : FOk (takeF f i) := by
  have hn := hf.n
  refine ⟨?_, fun s hs => hf.s s (List.mem_of_mem_take hs), hf.r, hf.e, hf.rod, hf.case⟩
  simp only [takeF, List.length_take]; omega
theorem take_dist (f : Frame) (i : Nat) (r : Int) : dist (takeF f i) i r = dist f i r := by
  unfold dist takeF
  simp only [List.take_take, Nat.min_self]
theorem take_sec (f : Frame) (i : Nat) : secAt (takeF f i) i = secAt f i := by
  unfold secAt takeF
  simp only [List.getElem?_take]
  rw [if_pos (by omega)]
theorem take_binds (f : Frame) (i : Nat) (r : Int) : bindsI (takeF f i) i r = bindsI f i r := by
  unfold bindsI
  rw [take_sec, take_dist]
  rfl
theorem take_turns (f : Frame) (i : Nat) : turnsI (takeF f i) i = turnsI f i := by
  unfold turnsI
  rw [take_sec]
  congr 1
  funext x
  unfold turnsP
  have : (fun r => turnQ x (dist (takeF f i) i (r + 1)) (dist (takeF f i) i r)) = fun r => turnQ x (dist f i (r + 1)) (dist f i r) := by
    funext r; rw [take_dist, take_dist]
  rw [this]
  rfl
theorem blame_pos {f : Frame} : 0 < (blameL f).length ↔ opensI f = 2 := by
  rw [opens_two]
  unfold blameL
  rw [List.length_map, List.length_pos_iff_exists_mem]
  simp only [List.mem_filter, List.mem_range, beq_iff_eq]
theorem opens_first {f : Frame} (hf : FOk f) : opensI f = 1 ↔ firstO f = none := by
  rw [opens_one]
  constructor
  · intro h
    cases hfo : firstO f with
    | none => rfl
    | some z =>
      obtain ⟨r, i⟩ := z
      obtain ⟨⟨q1, q2⟩, ⟨j, _, hj, hb, _⟩, _⟩ := first_some hfo
      exact absurd ((stuck_two hf hj).1 (h j hj) r q1 q2) hb
  · intro h i hi
    exact (stuck_two hf hi).2 fun r q1 q2 => first_none h r q1 q2 i hi
theorem law_FramesFolds (f : Frame) (x : law01_Ask) (_ : W_Frame f) (_ : W_law01_Ask x) : ∃ n, F_law01_FramesFolds n f x = some true := by
  obtain ⟨n, hn, hw⟩ := works_at
  refine ⟨n, ?_⟩
  simp only [F_law01_FramesFolds]
  rcases p_ready hn f with h | ⟨h, hok⟩
  · simp [h, hw]
  · have hf := okF_iff.1 hok.1
    have hln := hf.n
    have hl : f.Sections.length ≤ 1000 := by omega
    have hr := hf.r
    by_cases ha : (wi x.Section 0 ((f.Sections.length : Int) - 1) && wi x.R f.Low f.High) = true
    · have a1 := ask_zero hok.1 ha
      have a3 := ask_low hok.1 ha
      obtain ⟨_, ⟨i1, i2⟩, r1, r2⟩ := askT_ok a1
      have hg := take_ok hf x.Section.toNat
      have hog := okF_iff.2 hg
      have hlg : (takeF f x.Section.toNat).Sections.length ≤ 1000 := by have := hg.n; omega
      have hag : (wi x.Section 0 (((takeF f x.Section.toNat).Sections.length : Int) - 1) && wi x.R (takeF f x.Section.toNat).Low (takeF f x.Section.toNat).High) = true := by
        simp only [Bool.and_eq_true, wi_t] at ha ⊢
        refine ⟨⟨by omega, ?_⟩, ha.2⟩
        simp only [takeF, List.length_take]; omega
      have a2 := ask_zero hog hag
      have a4 := ask_low hog hag
      have es : slc f.Sections 0 (w64 (x.Section + 1)) = some (f.Sections.take (x.Section.toNat + 1)) := by
        rw [w64_id (by omega) (by omega)]
        unfold slc
        rw [if_pos (by omega)]
        simp only [Int.toNat_zero, List.drop_zero]
        congr 2; omega
      have eo : opensT f = (opensI f, 0) := by unfold opensT; rw [if_pos hok.1]
      have ebl : blameT f = (blameL f, 0) := by unfold blameT; rw [if_pos hok.1]
      have eb : bindsT f x.Section x.R = (bindsI f x.Section.toNat x.R, 0) := by unfold bindsT; rw [if_pos a1]
      have eb2 : bindsT (takeF f x.Section.toNat) x.Section x.R = (bindsI f x.Section.toNat x.R, 0) := by unfold bindsT; rw [if_pos a2, take_binds]
      have et : turnsT f x.Section = (turnsI f x.Section.toNat, 0) := by unfold turnsT; rw [if_pos a3]
      have et2 : turnsT (takeF f x.Section.toNat) x.Section = (turnsI f x.Section.toNat, 0) := by unfold turnsT; rw [if_pos a4, take_turns]
      have ed : distanceT f x.Section x.R = (dist f x.Section.toNat x.R, 0) := by unfold distanceT; rw [if_pos a1]
      have hbl : (blameL f).length ≤ f.Sections.length := by
        unfold blameL
        rw [List.length_map]
        have := List.length_filter_le (fun i => stuckI f i == 1) (List.range f.Sections.length)
        rwa [List.length_range] at this
      have hbp := blame_pos (f := f)
      have hof := opens_first hf
      simp only [h, p_isAsk hn hl, ha, Option.bind_some, Bool.not_true, Bool.false_eq_true, if_false, p_Opens hn hl, p_First hn hl, p_Blame hn hl, p_Copy01 hn hl, es, eo, ebl]
      rw [show Frame.mk (f.Sections.take (x.Section.toNat + 1)) f.Low f.High f.Ease f.Rod f.Case = takeF f x.Section.toNat from rfl]
      simp only [p_Binds hn hl, p_Binds hn hlg, p_Turns hn hl, p_Turns hn hlg, p_Distance hn hl, eb, eb2, et, et2, ed, Option.bind_some]
      have hfe : ((firstT f).2.2 = 0 ∨ (firstT f).2.2 = 3) ∧ (opensI f = 1 ↔ (firstT f).2.2 = 3) := by
        rcases firstT_err hok.1 with ⟨q0, r, i, q1, _⟩ | ⟨q0, q1⟩
        · refine ⟨.inl q0, ?_⟩
          rw [hof, q0, q1]; simp
        · refine ⟨.inr q0, ?_⟩
          rw [hof, q0, q1]; simp
      generalize (firstT f).2.2 = E at *
      have c1 : ((((((0 : Int) != 0) || ((E != 0) && (E != 3))) || ((0 : Int) != 0)) || ((opensI f == 1) != (E == 3))) || ((opensI f == 2) != (decide (0 < ((blameL f).length : Int)))) || (decide ((f.Sections.length : Int) < ((blameL f).length : Int)))) = false := by
        have z1 : decide ((f.Sections.length : Int) < ((blameL f).length : Int)) = false := by simp; omega
        have z2 : ((opensI f == 2) != (decide (0 < ((blameL f).length : Int)))) = false := by
          by_cases hb : opensI f = 2
          · have := hbp.2 hb
            rw [hb]; simp; omega
          · have : ¬ 0 < (blameL f).length := fun e => hb (hbp.1 e)
            have e1 : (opensI f == 2) = false := by simpa using hb
            have e2 : decide (0 < ((blameL f).length : Int)) = false := decide_eq_false (by omega)
            rw [e1, e2]; rfl
        have z3 : ((opensI f == 1) != (E == 3)) = false := by
          by_cases hb : opensI f = 1
          · rw [hb, hfe.2.1 hb]; rfl
          · have : ¬ E = 3 := fun e => hb (hfe.2.2 e)
            have e1 : (opensI f == 1) = false := by simpa using hb
            have e2 : (E == 3) = false := by simpa using this
            rw [e1, e2]; rfl
        have z4 : ((E != 0) && (E != 3)) = false := by
          rcases hfe.1 with e | e <;> rw [e] <;> rfl
        rw [z1, z2, z3, z4]; rfl
      simp only [c1, Bool.false_eq_true, if_false]
      simp only [bne_self_eq_false, Bool.or_self, Bool.false_eq_true, if_false]
      by_cases h0 : x.Section = 0
      · have : dist f x.Section.toNat x.R = x.R := by
          rw [h0]
          unfold dist
          rw [show ((0 : Int).toNat + 1) = 1 from rfl, List.drop_eq_nil_of_le (by simp; omega)]; rfl
        rw [this]
        simp [h0, hw]
      · obtain ⟨k, hk⟩ : ∃ k, x.Section.toNat = k + 1 := ⟨x.Section.toNat - 1, by omega⟩
        have hk2 : x.Section = ((k + 1 : Nat) : Int) := by omega
        have hki : k + 1 < f.Sections.length := by omega
        have e1 : w64 (x.Section - 1) = (k : Int) := by rw [w64_id] <;> omega
        have a5 : askT f (k : Int) x.R = 0 := ask_zero hok.1 (by simp only [Bool.and_eq_true, wi_t] at ha ⊢; omega)
        have ed2 : distanceT f (k : Int) x.R = (dist f k x.R, 0) := by unfold distanceT; rw [if_pos a5]; simp
        have hg0 := secAt_get hki
        have hs := hf.s _ (secAt_mem hki)
        have hd := dist_in hf (r := x.R) (by omega) k
        obtain ⟨k1, k2, k3, k4, k5, k6⟩ := gear_in hs hd.1 hd.2
        have hdd := hs.d
        have hnz : nz (secAt f (k + 1)).Gear.Den = some () := by unfold nz; rw [if_neg (by omega)]
        have eg : geti f.Sections x.Section = some (secAt f (k + 1)) := by rw [hk2, geti_nat]; exact hg0
        have e0 : (x.Section == 0) = false := by simpa using h0
        have q1 : decide (0 ≤ dist f k x.R) = true := by simp; omega
        have q2 : decide (dist f k x.R ≤ 20000) = true := by simp; omega
        simp only [e0, Bool.false_eq_true, if_false, eg, Option.bind_some, e1, ed2, hk, dist_succ hg0, hnz, q1, q2, hw]
        rw [w64_id (n := dist f k x.R * _) (by omega) (by omega), w64_id (n := Int.tdiv _ _) (by omega) (by omega)]
        have : w64 ((secAt f (k + 1)).Base + (dist f k x.R * (secAt f (k + 1)).Gear.Num).tdiv (secAt f (k + 1)).Gear.Den) = gearStep (dist f k x.R) (secAt f (k + 1)) := w64_id (n := gearStep (dist f k x.R) (secAt f (k + 1))) (by omega) (by omega)
        rw [this]
        simp
    · simp [h, p_isAsk hn hl, ha, hw]
end Go.Proofs.Ytmgnhaibbeinbaa
