/-
  The plain law of FramesTrue.
-/
import Derived.Test.YtmgnhaibbeinbaaPfe
import Derived.Test.YtmgnhaibbeinbaaOpn
namespace Go.Proofs.Ytmgnhaibbeinbaa
open Go Go.RowKit Go.Dec
def isPairB (f : Frame) (i : Nat) (p : ref01_Pair) : Bool := wi p.Arm (secAt f i).Arm.Low (secAt f i).Arm.High && wi p.Stretch (secAt f i).Stretch.Low (secAt f i).Stretch.High
theorem isPairB_mem {f : Frame} {i : Nat} {p : ref01_Pair} : isPairB f i p = true ↔ toS p ∈ sidesL (secAt f i) := by
  simp only [isPairB, Bool.and_eq_true, wi_t, sides_mem, toS]
theorem fold_max_le {α : Type} {g : α → Int} {M : Int} : ∀ (l : List α) (a : Int), a ≤ M → (∀ x ∈ l, g x ≤ M) → l.foldl (fun m x => max m (g x)) a ≤ M
  | [], a, h, _ => h
  | x :: l, a, h, hx => by
    rw [List.foldl_cons]
    exact fold_max_le l _ (by have := hx x (List.mem_cons_self ..); omega) (fun y hy => hx y (List.mem_cons_of_mem _ hy))
theorem le_fold_max {α : Type} {g : α → Int} : ∀ (l : List α) (a : Int), a ≤ l.foldl (fun m x => max m (g x)) a ∧ ∀ x ∈ l, g x ≤ l.foldl (fun m x => max m (g x)) a
  | [], a => ⟨Int.le_refl _, fun x h => by cases h⟩
  | y :: l, a => by
    obtain ⟨h1, h2⟩ := le_fold_max l (max a (g y)) (g := g)
    rw [List.foldl_cons]
    refine ⟨by omega, fun x hx => ?_⟩
    rcases List.mem_cons.1 hx with rfl | hx
    · omega
    · exact h2 x hx
def longT (t : List ref01_Pair) : Int := t.foldl (fun m p => max m p.Arm) 0
theorem zip_get {α : Type} {t : List α} {i : Nat} {x : α × Nat} (h : t.zipIdx[i]? = some x) : x.2 = i ∧ t[i]? = some x.1 := by
  rw [List.getElem?_zipIdx] at h
  cases ht : t[i]? with
  | none => rw [ht] at h; cases h
  | some y =>
    rw [ht] at h
    simp at h
    subst h
    exact ⟨rfl, rfl⟩
theorem law_FramesTrue (f : Frame) (t : List ref01_Pair) (x : law01_Ask) (_ : W_Frame f) (_ : ((∀ z0 ∈ t, W_ref01_Pair z0) ∧ t.length ≤ 9223372036854775807)) (_ : W_law01_Ask x) : ∃ n, F_law01_FramesTrue n f t x = some true := by
  obtain ⟨n, hn, hw⟩ := works_at
  refine ⟨n, ?_⟩
  simp only [F_law01_FramesTrue]
  rcases p_ready hn f with h | ⟨h, hok⟩
  · simp [h, hw]
  · have hf := okF_iff.1 hok.1
    have hln := hf.n
    have hl : f.Sections.length ≤ 1000 := by omega
    have hr := hf.r
    have hrod := hf.rod
    by_cases ha : (wi x.Section 0 ((f.Sections.length : Int) - 1) && wi x.R f.Low f.High) = true
    · by_cases htl : t.length = f.Sections.length
      · have a1 := ask_zero hok.1 ha
        have a3 := ask_low hok.1 ha
        obtain ⟨_, ⟨i1, i2⟩, r1, r2⟩ := askT_ok a1
        have hs := hf.s _ (secAt_mem i2)
        have hd := dist_in hf (r := x.R) (by omega) x.Section.toNat
        have e0 : ((t.length : Int) != (f.Sections.length : Int)) = false := by simp; omega
        -- the loop
        have hIsPair : ∀ (i : Nat) p, i < f.Sections.length → F_ref01_IsPair n f i p = some (isPairB f i p) := fun i p hi => by
          simp only [F_ref01_IsPair, geti_nat, secAt_get hi, Option.bind_some, p_within01, and_br, isPairB]
        let cs : Bool × Int → ref01_Pair × Nat → Option ((Bool × Int) ⊕ Bool) := fun z p => some (bif isPairB f p.2 p.1 then .inl (z.1 && !stuckP f p.2 (toS p.1), max z.2 p.1.Arm) else .inr true)
        have hloop := loop_walk (step := F_law01_FramesTrue_s1 n f t) t.zipIdx (fun i (z : Bool × Int) => (z.1, z.2, (i : Int))) cs (fun z => .inr z) (fun b => .inl b) (n := n) (fun i p z hp => by
          obtain ⟨hp2, hp1⟩ := zip_get hp
          have hi := (List.getElem?_eq_some_iff.1 hp1).1
          have hi' : i < f.Sections.length := by omega
          obtain ⟨p, j⟩ := p
          simp only at hp2 hp1
          subst hp2
          simp only [F_law01_FramesTrue_s1, geti_nat, hp1, lt_nat, hi, decide_true, if_true, Option.bind_some, hIsPair _ p hi', hw, w64_nat (show j ≤ 4611686018427387904 by omega), cs]
          cases hpb : isPairB f j p with
          | false => rfl
          | true =>
            have hx := sides_ok (hf.s _ (secAt_mem hi')) (isPairB_mem.1 hpb)
            simp only [Bool.not_true, Bool.false_eq_true, if_false, p_Free hn hf hi' hx, Option.bind_some, and_br, cond_true]) (fun z => by simp [F_law01_FramesTrue_s1]) (by simp; omega) (true, 0)
        simp only [Int.natCast_zero] at hloop
        have hfold : ∀ (l : List (ref01_Pair × Nat)) (z : Bool × Int), foldO cs z l = some (bif l.all (fun p => isPairB f p.2 p.1) then .inl (z.1 && l.all (fun p => !stuckP f p.2 (toS p.1)), l.foldl (fun m p => max m p.1.Arm) z.2) else .inr true) := by
          intro l
          induction l with
          | nil => intro z; simp [foldO]
          | cons p l ih =>
            intro z
            rw [foldO, List.all_cons, List.all_cons, List.foldl_cons]
            show (some (bif isPairB f p.2 p.1 then _ else _)).bind _ = _
            cases isPairB f p.2 p.1 with
            | false => rfl
            | true =>
              simp only [cond_true, Option.bind_some, Bool.true_and]
              rw [ih]
              simp only [Bool.and_assoc]
        rw [hfold] at hloop
        simp only [h, p_isAsk hn hl, ha, Option.bind_some, Bool.not_true, Bool.false_or, e0, Bool.false_eq_true, if_false, hloop]
        cases hall : t.zipIdx.all (fun p => isPairB f p.2 p.1) with
        | false => rfl
        | true =>
          simp only [cond_true, Option.bind_some, Bool.true_and]
          have hgood : ∀ i, (hi : i < t.length) → isPairB f i t[i] = true := fun i hi => by
            have : (t[i], i) ∈ t.zipIdx := by
              refine List.mem_iff_getElem?.2 ⟨i, ?_⟩
              rw [List.getElem?_zipIdx, List.getElem?_eq_getElem hi]; simp
            exact List.all_eq_true.1 hall _ this
          -- free
          have hfree : t.zipIdx.all (fun p => !stuckP f p.2 (toS p.1)) = true ↔ ∀ i, (hi : i < t.length) → stuckP f i (toS t[i]) = false := by
            rw [List.all_eq_true]
            constructor
            · intro hA i hi
              have : (t[i], i) ∈ t.zipIdx := by
                refine List.mem_iff_getElem?.2 ⟨i, ?_⟩
                rw [List.getElem?_zipIdx, List.getElem?_eq_getElem hi]; simp
              have := hA _ this
              simpa using this
            · intro hA p hp
              obtain ⟨i, hi⟩ := List.mem_iff_getElem?.1 hp
              obtain ⟨hp2, hp1⟩ := zip_get hi
              have hil := (List.getElem?_eq_some_iff.1 hp1)
              obtain ⟨hil, e⟩ := hil
              have := hA i hil
              rw [e] at this
              rw [hp2, this]; rfl
          generalize t.zipIdx.all (fun p => !stuckP f p.2 (toS p.1)) = FR at *
          -- long
          have hlong : armLow f ≤ t.zipIdx.foldl (fun m p => max m p.1.Arm) 0 ∧ t.zipIdx.foldl (fun m p => max m p.1.Arm) 0 ≤ armHigh f ∧ 0 ≤ t.zipIdx.foldl (fun m p => max m p.1.Arm) 0 ∧ t.zipIdx.foldl (fun m p => max m p.1.Arm) 0 ≤ 2000 := by
            have g1 := le_fold_max t.zipIdx 0 (g := fun p : ref01_Pair × Nat => p.1.Arm)
            have g2 := le_fold_max f.Sections 0 (g := fun s : Section => s.Arm.High)
            refine ⟨?_, ?_, g1.1, ?_⟩
            · refine fold_max_le _ _ g1.1 fun s hsm => ?_
              obtain ⟨i, hi⟩ := List.mem_iff_getElem?.1 hsm
              have hil := (List.getElem?_eq_some_iff.1 hi).1
              have hg := hgood i (by omega)
              have hse : secAt f i = s := by have := secAt_get hil; rw [hi] at this; exact (Option.some.inj this).symm
              simp only [isPairB, Bool.and_eq_true, wi_t, hse] at hg
              have hm : (t[i]'(by omega), i) ∈ t.zipIdx := by
                refine List.mem_iff_getElem?.2 ⟨i, ?_⟩
                rw [List.getElem?_zipIdx, List.getElem?_eq_getElem (by omega)]; simp
              have := g1.2 _ hm
              try simp only at this
              omega
            · refine fold_max_le _ _ g2.1 fun p hp => ?_
              obtain ⟨i, hi⟩ := List.mem_iff_getElem?.1 hp
              obtain ⟨hp2, hp1⟩ := zip_get hi
              obtain ⟨hil, e⟩ := List.getElem?_eq_some_iff.1 hp1
              have hg := hgood i hil
              rw [e] at hg
              simp only [isPairB, Bool.and_eq_true, wi_t] at hg
              have := g2.2 _ (secAt_mem (f := f) (i := i) (by omega))
              try simp only at this
              unfold armHigh
              omega
            · refine fold_max_le _ _ (by omega) fun p hp => ?_
              obtain ⟨i, hi⟩ := List.mem_iff_getElem?.1 hp
              obtain ⟨hp2, hp1⟩ := zip_get hi
              obtain ⟨hil, e⟩ := List.getElem?_eq_some_iff.1 hp1
              have hg := hgood i hil
              rw [e] at hg
              simp only [isPairB, Bool.and_eq_true, wi_t] at hg
              have := (hf.s _ (secAt_mem (f := f) (i := i) (by omega))).a
              omega
          generalize t.zipIdx.foldl (fun m p => max m p.1.Arm) 0 = LG at *
          -- the pair of the section
          have hts : x.Section.toNat < t.length := by omega
          have hgt : geti t x.Section = some (t[x.Section.toNat]'hts) := by
            have := geti_nat t x.Section.toNat
            rw [← i1] at this
            rw [this]; exact List.getElem?_eq_getElem hts
          have hpm : toS (t[x.Section.toNat]'hts) ∈ sidesL (secAt f x.Section.toNat) := isPairB_mem.1 (hgood _ hts)
          generalize hpp : t[x.Section.toNat]'hts = p at *
          have hxo := sides_ok hs hpm
          have hBA : F_ref01_BindsAt n f x.Section x.R p = some (bindsP (dist f x.Section.toNat x.R) f.Ease (toS p)) := by
            have := p_BindsAt hn hf i2 ⟨r1, r2⟩ hxo
            rw [← i1] at this; exact this
          have hTW : F_ref01_TurnsWith n f x.Section p = some (turnsP f x.Section.toNat (toS p)) := by
            have := p_TurnsWith hn hf i2 hxo
            rw [← i1] at this; exact this
          have eo : opensT f = (opensI f, 0) := by unfold opensT; rw [if_pos hok.1]
          have ecl : closesT f = (closesI f, 0) := by unfold closesT; rw [if_pos hok.1]
          have eb : bindsT f x.Section x.R = (bindsI f x.Section.toNat x.R, 0) := by unfold bindsT; rw [if_pos a1]
          have et : turnsT f x.Section = (turnsI f x.Section.toNat, 0) := by unfold turnsT; rw [if_pos a3]
          have ed : distanceT f x.Section x.R = (dist f x.Section.toNat x.R, 0) := by unfold distanceT; rw [if_pos a1]
          have ag : ∀ (k : Int) (b : Bool), (k = 1 ∨ k = 2 ∨ k = 3) → (k = 1 → b = true) → (k = 2 → b = false) → F_law01_agrees n k b = some true := fun k b hk h1 h2 => by
            simp only [F_law01_agrees]
            rcases hk with rfl | rfl | rfl
            · simp [h1 rfl]
            · simp [h2 rfl]
            · simp
          have g1 : F_law01_agrees n (bindsI f x.Section.toNat x.R) (bindsP (dist f x.Section.toNat x.R) f.Ease (toS p)) = some true := ag _ _ (K_mem _ _) (fun e => K_one.1 e _ hpm) (fun e => (K_two hs).1 e _ hpm)
          have g2 : F_law01_agrees n (opensI f) FR = some true := ag _ _ (opens_mem f) (fun e => hfree.2 fun i hi => (K_two (hf.s _ (secAt_mem (by omega)))).1 (opens_one.1 e i (by omega)) _ (isPairB_mem.1 (hgood i hi))) (fun e => by
            obtain ⟨i, hi, hst⟩ := opens_two.1 e
            have q := K_one.1 hst _ (isPairB_mem.1 (hgood i (by omega)))
            cases FR with
            | false => rfl
            | true => rw [hfree.1 rfl i (by omega)] at q; cases q)
          have g3 : F_law01_agrees n (turnsI f x.Section.toNat) (turnsP f x.Section.toNat (toS p)) = some true := ag _ _ (K_mem _ _) (fun e => K_one.1 e _ hpm) (fun e => (K_two hs).1 e _ hpm)
          have g4 : F_law01_agrees n (closesI f) (decide (f.Rod + LG ≤ f.Case)) = some true := ag _ _ (by unfold closesI; split; simp; split <;> simp) (fun e => by
            unfold closesI at e
            split at e
            · simp; omega
            · split at e <;> cases e) (fun e => by
            unfold closesI at e
            split at e
            · cases e
            · split at e
              · simp; omega
              · cases e)
          have hw64 : w64 (f.Rod + LG) = f.Rod + LG := w64_id (by omega) (by omega)
          have k2 : bindsI f x.Section.toNat x.R = 2 → bindsP (dist f x.Section.toNat x.R) f.Ease (toS p) = false := fun e => (K_two hs).1 e _ hpm
          simp only [p_Cosine hn hl, p_Binds hn hl, p_Opens hn hl, p_Turns hn hl, p_Closes hn hl, p_Distance hn hl, p_First hn hl, eb, eo, et, ecl, ed, hgt, p_CosineOf hn hd hxo, hBA, hTW, hw64, g1, g2, g3, g4, Option.bind_some, hw]
          -- behind the cosine
          have fin : ∀ BP : Bool, BP = bindsP (dist f x.Section.toNat x.R) f.Ease (toS p) → (if ((firstT f).2.2 == 0) = true then ((if ((!BP) || (decide (x.R ≤ (firstT f).2.1))) = true then (some true) else (some false) : Option Bool).bind fun p489 => some p489) else ((if (((firstT f).2.2 == 3) && (!BP)) = true then (some true) else (some false) : Option Bool).bind fun p496 => some p496)) = some true := fun BP hBP => by
            rcases firstT_err hok.1 with ⟨q0, r, i, q1, q2⟩ | ⟨q0, q1⟩
            · obtain ⟨⟨b1, b2⟩, ⟨j, rfl, hj, hb, hjmin⟩, hmax⟩ := first_some q1
              rw [q2]
              cases BP with
              | false => simp
              | true =>
                have : x.R ≤ r := by
                  rcases Int.lt_or_le r x.R with hlt | hge
                  · have := k2 (hmax x.R hlt r2 _ i2)
                    rw [← hBP] at this; cases this
                  · exact hge
                simp [this]
            · have := k2 (first_none q1 x.R r1 r2 _ i2)
              rw [hBP, this, q0]
              simp
          have hfin := fin _ rfl
          generalize bindsP (dist f x.Section.toNat x.R) f.Ease (toS p) = BP at *
          by_cases h0 : dist f x.Section.toNat x.R = 0
          · have ec : cosineT f x.Section x.R = (⟨0, 0⟩, ⟨0, 0⟩, 3) := by unfold cosineT; rw [if_pos a1, if_pos h0]
            rw [ec, h0]
            simp
            simpa using hfin
          · have hd' : 1 ≤ dist f x.Section.toNat x.R ∧ dist f x.Section.toNat x.R ≤ 6000 := by omega
            have ec : cosineT f x.Section x.R = (red (lowF (dist f x.Section.toNat x.R) (sidesL (secAt f x.Section.toNat))), red (highF (dist f x.Section.toNat x.R) (sidesL (secAt f x.Section.toNat))), 0) := by unfold cosineT; rw [if_pos a1, if_neg h0]
            have hxs : ∀ y ∈ sidesL (secAt f x.Section.toNat), XOk y := fun y hy => sides_ok hs hy
            obtain ⟨⟨_, e1⟩, ⟨_, e2⟩⟩ := low_spec hd' _ hxs (sides_ne hs)
            have hlo := low_ok hd' _ hxs (sides_ne hs)
            have s1 := e1 _ hpm
            have s2 := e2 _ hpm
            rw [ec]
            generalize lowF (dist f x.Section.toNat x.R) (sidesL (secAt f x.Section.toNat)) = lo at *
            generalize highF (dist f x.Section.toNat x.R) (sidesL (secAt f x.Section.toNat)) = hi at *
            have hc := (cos_ok hd' hxo).1
            have o1 := red_ok hlo.1
            have o2 := red_ok hlo.2
            have o3 := red_ok hc
            have q1 : decide (dist f x.Section.toNat x.R < 0) = false := by simp; omega
            have q2 : decide (20000 < dist f x.Section.toNat x.R) = false := by simp; omega
            have f1 : F_law01_isFrac n (red lo) = some true := by
              obtain ⟨⟨z1, z2⟩, z3, z4⟩ := o1
              simp only [F_law01_isFrac]; simp; omega
            have f2 : F_law01_isFrac n (red hi) = some true := by
              obtain ⟨⟨z1, z2⟩, z3, z4⟩ := o2
              simp only [F_law01_isFrac]; simp; omega
            simp only [q1, q2, h0, if_false, f1, f2, p_Less n (frac_b o3) (frac_b o1), p_Less n (frac_b o2) (frac_b o3), ltF_red hc.1.1 hlo.1.1.1, ltF_red hlo.2.1.1 hc.1.1, s1, s2, Option.bind_some]
            simp
            simpa using hfin
      · have e0 : ((t.length : Int) != (f.Sections.length : Int)) = true := by simp; omega
        simp [h, p_isAsk hn hl, ha, e0, hw]
    · simp [h, p_isAsk hn hl, ha, hw]
end Go.Proofs.Ytmgnhaibbeinbaa
