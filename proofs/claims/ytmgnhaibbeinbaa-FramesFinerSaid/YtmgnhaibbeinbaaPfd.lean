/-
  The plain layer of the reference of frames: what holds at all positions; what the laws use.
-/
import Derived.Test.YtmgnhaibbeinbaaPfc
namespace Go.Proofs.Ytmgnhaibbeinbaa
open Go Go.RowKit Go.Dec
set_option linter.unusedVariables false

theorem span_down_all {p : Int → Bool} {a b : Int} : (span a b).all (fun r => !p r) = !(down b a).any p := by
  rw [Bool.eq_iff_iff]
  simp only [List.all_eq_true, Bool.not_eq_true', ← Bool.not_eq_true, List.any_eq_true, not_exists, not_and, span_mem', down_mem]
theorem countP_not {α : Type} (p : α → Bool) (l : List α) : l.countP (fun x => !p x) + l.countP p = l.length := by
  have := List.length_eq_countP_add_countP p (l := l)
  simp only [Bool.not_eq_true] at this
  have e : l.countP (fun x => !p x) = l.countP (fun x => decide (p x = false)) := by
    apply List.countP_congr
    intro x _; cases p x <;> simp
  omega
section
variable {n : Nat} (hn : 100000000 ≤ n)
include hn
theorem p_Free {f : Frame} (hf : FOk f) {i : Nat} (hi : i < f.Sections.length) {p : ref01_Pair} (hp : XOk (toS p)) : F_ref01_Free n f i p = some (!stuckP f i (toS p)) := by
  have hrr := hf.r
  have := loop_span_all (step := F_ref01_Free_s1 n f i p) (hi := f.High) (fun r => !bindsP (dist f i r) f.Ease (toS p)) false _ f.Low n rfl (fun b h1 h2 => by
    simp only [F_ref01_Free_s1]
    rw [if_pos (by simpa using h2), p_BindsAt hn hf hi ⟨h1, h2⟩ hp, w64_id (by omega) (by omega)]
    simp only [Option.bind_some]
    cases bindsP (dist f i b) f.Ease (toS p) <;> rfl) (fun b h1 _ => by
    simp only [F_ref01_Free_s1]
    rw [if_neg (by simp; omega)]) (by omega)
  simp only [F_ref01_Free, this, Option.bind_some, span_down_all]
  unfold stuckP posL
  cases (down f.High f.Low).any fun r => bindsP (dist f i r) f.Ease (toS p) <;> rfl
theorem p_free {f : Frame} (hf : FOk f) {i : Nat} (hi : i < f.Sections.length) : F_ref01_free n f i = some ((((sidesL (secAt f i)).countP (fun x => !stuckP f i x) : Nat) : Int), ((sidesL (secAt f i)).length : Int)) := by
  have hs := hf.s _ (secAt_mem hi)
  have hl := sides_len hs
  have hl2 := pairs_len hn (secAt f i)
  simp only [F_ref01_free, p_Pairs hn hf hi, Option.bind_some]
  rw [p_count hn hs (F_ref01_free_s1 n f i (pairsL (secAt f i))) (fun x => !stuckP f i (toS x)) (fun j x c hx hc => by
    have hj := (List.getElem?_eq_some_iff.1 hx).1
    simp only [F_ref01_free_s1, geti_nat, hx, lt_nat, hj, decide_true, if_true, Option.bind_some, p_Free hn hf hi (pairs_ok hn hs (List.mem_of_getElem? hx)), w64_nat (show j ≤ 4611686018427387904 by omega)]
    rw [w64_id (n := c + 1) (by omega) (by omega)]
    cases stuckP f i (toS x) <;> rfl) (fun c => by simp [F_ref01_free_s1]), count_pairs hn (secAt f i) (fun x => !stuckP f i x), hl2]
  rfl
theorem p_TurnsWith {f : Frame} (hf : FOk f) {i : Nat} (hi : i < f.Sections.length) {p : ref01_Pair} (hp : XOk (toS p)) : F_ref01_TurnsWith n f i p = some (turnsP f i (toS p)) := by
  have hrr := hf.r
  have hl := hf.n
  have := loop_span_all (step := F_ref01_TurnsWith_s1 n f i p) (hi := f.High) (fun r => !turnQ (toS p) (dist f i r) (dist f i (r - 1))) true _ (f.Low + 1) n rfl (fun b h1 h2 => by
    have d1 := dist_in hf (r := b - 1) (by omega) i
    have d2 := dist_in hf (r := b) (by omega) i
    simp only [F_ref01_TurnsWith_s1]
    rw [if_pos (by simpa using h2), w64_id (n := b - 1) (by omega) (by omega), w64_id (n := b + 1) (by omega) (by omega), p_distance01 hf (r := b - 1) (by omega) i n (by omega) hi, p_distance01 hf (r := b) (by omega) i n (by omega) hi]
    simp only [Option.bind_some, p_CosineOf hn d1 hp, p_CosineOf hn d2 hp]
    by_cases z1 : dist f i (b - 1) = 0
    · simp [z1, turnQ]
    · by_cases z2 : dist f i b = 0
      · simp [z1, z2, turnQ]
      · have c1 := (cos_ok (d := dist f i (b - 1)) (by omega) hp).1
        have c2 := (cos_ok (d := dist f i b) (by omega) hp).1
        have e1 : decide (0 < dist f i b) = true := by simp; omega
        have e2 : decide (0 < dist f i (b - 1)) = true := by simp; omega
        simp only [z1, z2, if_false, Bool.and_self, if_true, p_Less n (frac_b (red_ok c2)) (frac_b (red_ok c1)), ltF_red c2.1.1 c1.1.1, Option.bind_some, turnQ, e1, e2, Bool.true_and]
        cases ltF (cosF (dist f i b) (toS p)) (cosF (dist f i (b - 1)) (toS p)) <;> rfl) (fun b h1 _ => by
    simp only [F_ref01_TurnsWith_s1]
    rw [if_neg (by simp; omega)]) (by omega)
  simp only [F_ref01_TurnsWith]
  rw [w64_id (n := f.Low + 1) (by omega) (by omega), this, span_down_all (p := fun r => turnQ (toS p) (dist f i r) (dist f i (r - 1)))]
  have e : ((down f.High (f.Low + 1)).any fun r => turnQ (toS p) (dist f i r) (dist f i (r - 1))) = turnsP f i (toS p) := by
    unfold turnsP
    rw [Bool.eq_iff_iff]
    simp only [List.any_eq_true, down_mem]
    constructor
    · rintro ⟨r, h1, h2⟩
      exact ⟨r - 1, by omega, by rw [show r - 1 + 1 = r by omega]; exact h2⟩
    · rintro ⟨r, h1, h2⟩
      exact ⟨r + 1, by omega, by rw [show r + 1 - 1 = r by omega]; exact h2⟩
  rw [e]
  simp only [Option.bind_some]
  cases turnsP f i (toS p) <;> rfl
theorem p_Turns01 {f : Frame} (hl : f.Sections.length ≤ 1000) (sec : Int) : F_ref01_Turns n f sec = some (turnsT f sec) := by
  have e1 : (wi sec 0 ((f.Sections.length : Int) - 1)) = (wi sec 0 ((f.Sections.length : Int) - 1) && wi f.Low f.Low f.High) ∨ okF f = false := by
    by_cases ho : okF f = true
    · left
      have := (okF_iff.1 ho).r
      have e : wi f.Low f.Low f.High = true := by rw [wi_t]; omega
      rw [e, Bool.and_true]
    · right; simpa using ho
  have e2 : F_ref01_check n f (wi sec 0 ((f.Sections.length : Int) - 1)) = some (askT f sec f.Low) := by
    rcases e1 with e1 | e1
    · rw [e1]; exact p_check01 hn hl sec f.Low
    · simp [F_ref01_check, p_Check01 hn hl, e1, askT]
  simp only [F_ref01_Turns, p_IsSection hn hl, Option.bind_some, e2, turnsT]
  by_cases h : askT f sec f.Low = 0
  · obtain ⟨h1, ⟨h2, h3⟩, h4⟩ := askT_ok h
    have hs := h1.s _ (secAt_mem h3)
    have hl' := sides_len hs
    have hl2 := pairs_len hn (secAt f sec.toNat)
    have ep := p_Pairs hn h1 h3
    rw [← h2] at ep
    have ec := p_count hn hs (F_ref01_Turns_s1 n f sec (pairsL (secAt f sec.toNat))) (fun x => turnsP f sec.toNat (toS x)) (fun j x c hx hc => by
      have hj := (List.getElem?_eq_some_iff.1 hx).1
      have et := p_TurnsWith hn h1 h3 (pairs_ok hn hs (List.mem_of_getElem? hx))
      rw [← h2] at et
      simp only [F_ref01_Turns_s1, geti_nat, hx, lt_nat, hj, decide_true, if_true, Option.bind_some, et, w64_nat (show j ≤ 4611686018427387904 by omega)]
      rw [w64_id (n := c + 1) (by omega) (by omega)]
      cases turnsP f sec.toNat (toS x) <;> rfl) (fun c => by simp [F_ref01_Turns_s1])
    simp only [h, bne_self_eq_false, Bool.false_eq_true, if_false, if_true, ep, Option.bind_some, ec, hl2, count_pairs hn (secAt f sec.toNat) (turnsP f sec.toNat), p_is hn]
    rfl
  · simp [h]
theorem p_First01 {f : Frame} (hl : f.Sections.length ≤ 1000) : F_ref01_First n f = some (firstT f) := by
  simp only [F_ref01_First, p_Check01 hn hl, Option.bind_some, firstT]
  by_cases ho : okF f = true
  · have hf := okF_iff.1 ho
    have hr := hf.r
    have bi : ∀ (i : Nat) (r : Int), i < f.Sections.length → (0 < (((sidesL (secAt f i)).countP (bindsP (dist f i r) f.Ease) : Nat) : Int) ↔ ¬ bindsI f i r = 2) := fun i r hi => by
      have := knownI_two (so := (sidesL (secAt f i)).countP (bindsP (dist f i r) f.Ease)) (sides_pos (hf.s _ (secAt_mem hi)))
      unfold bindsI K
      rw [this]; omega
    have h1 : ∀ r, f.Low ≤ r → r ≤ f.High → F_ref01_First_s1 n f r = some (match (match (List.range f.Sections.length).findSome? (fun i => if bindsI f i r = 2 then none else some (r, (i : Int))) with | some z => some ((z.2, z.1, 0) : Int × Int × Int) | none => none) with | some z => .inr (.inl z) | none => .inl (r - 1)) := fun r hr1 hr2 => by
      have := loop_find (step := F_ref01_First_s2 n f r) (fun i => if bindsI f i r = 2 then none else some (Sum.inr (Sum.inl ((i : Int), r, 0)) : Int ⊕ ((Int × Int × Int) ⊕ Unit))) (n := n) f.Sections.length (fun i hi => by
        have hbi := bi i r hi
        simp only [F_ref01_First_s2, lt_nat, hi, decide_true, if_true, p_binds01 hn hf hi ⟨hr1, hr2⟩, Option.bind_some, w64_nat (show i ≤ 4611686018427387904 by omega)]
        by_cases h2 : bindsI f i r = 2
        · have : ¬ 0 < (((sidesL (secAt f i)).countP (bindsP (dist f i r) f.Ease) : Nat) : Int) := fun h => hbi.1 h h2
          simp only [this, decide_false, h2, if_true, Bool.false_eq_true, if_false]
        · have := hbi.2 h2
          simp only [this, decide_true, h2, if_false, if_true]) (by simp [F_ref01_First_s2]) (by omega)
      simp only [F_ref01_First_s1]
      rw [if_pos (by simpa using hr1), this, w64_id (by omega) (by omega)]
      have e : ∀ l : List Nat, l.findSome? (fun i => if bindsI f i r = 2 then none else some (Sum.inr (Sum.inl ((i : Int), r, 0)) : Int ⊕ ((Int × Int × Int) ⊕ Unit))) = (l.findSome? (fun i => if bindsI f i r = 2 then none else some (r, (i : Int)))).map (fun z => Sum.inr (Sum.inl (z.2, z.1, 0))) := by
        intro l
        induction l with
        | nil => rfl
        | cons a l ih =>
          rw [List.findSome?_cons, List.findSome?_cons]
          by_cases h2 : bindsI f a r = 2
          · simp only [h2, if_true]; exact ih
          · simp [h2]
      rw [e]
      cases (List.range f.Sections.length).findSome? (fun i => if bindsI f i r = 2 then none else some (r, (i : Int))) <;> rfl
    have h2 := loop_down_find (step := F_ref01_First_s1 n f) (fun r => match (List.range f.Sections.length).findSome? (fun i => if bindsI f i r = 2 then none else some (r, (i : Int))) with | some z => some ((z.2, z.1, 0) : Int × Int × Int) | none => none) (lo := f.Low) _ f.High n rfl (fun b k1 k2 => by
      rw [h1 b k1 k2]
      cases (List.range f.Sections.length).findSome? (fun i => if bindsI f i b = 2 then none else some (b, (i : Int))) <;> rfl) (fun b k1 _ => by
      simp only [F_ref01_First_s1]
      rw [if_neg (by simp; omega)]) (by omega)
    have e2 : ∀ l : List Int, (l.findSome? fun r => match (List.range f.Sections.length).findSome? (fun i => if bindsI f i r = 2 then none else some (r, (i : Int))) with | some z => some ((z.2, z.1, 0) : Int × Int × Int) | none => none) = (l.findSome? fun r => (List.range f.Sections.length).findSome? (fun i => if bindsI f i r = 2 then none else some (r, (i : Int)))).map (fun z => (z.2, z.1, 0)) := by
      intro l
      induction l with
      | nil => rfl
      | cons a l ih =>
        rw [List.findSome?_cons, List.findSome?_cons]
        cases (List.range f.Sections.length).findSome? (fun i => if bindsI f i a = 2 then none else some (a, (i : Int))) with
        | none => exact ih
        | some z => rfl
    simp only [ho, if_true, bne_self_eq_false, Bool.false_eq_true, if_false, h2, Option.bind_some, e2]
    unfold firstO posL
    cases (down f.High f.Low).findSome? (fun r => (List.range f.Sections.length).findSome? fun i => if bindsI f i r = 2 then none else some (r, (i : Int))) with
    | none => rfl
    | some z => rfl
  · simp [ho]
theorem free_known {f : Frame} (hf : FOk f) {i : Nat} (hi : i < f.Sections.length) : (((sidesL (secAt f i)).countP (fun x => !stuckP f i x) = 0 ↔ stuckI f i = 1)) ∧ ((sidesL (secAt f i)).countP (fun x => !stuckP f i x) ≠ (sidesL (secAt f i)).length ∧ (sidesL (secAt f i)).countP (fun x => !stuckP f i x) ≠ 0 ↔ stuckI f i = 3) := by
  have _hn := hn
  have hc := countP_not (stuckP f i) (sidesL (secAt f i))
  have hp := sides_pos (hf.s _ (secAt_mem hi))
  unfold stuckI K
  rw [knownI_one, knownI_three]
  omega
theorem p_Opens01 {f : Frame} (hl : f.Sections.length ≤ 1000) : F_ref01_Opens n f = some (opensT f) := by
  simp only [F_ref01_Opens, p_Check01 hn hl, Option.bind_some, opensT]
  by_cases ho : okF f = true
  · have hf := okF_iff.1 ho
    have := loop_walk (step := F_ref01_Opens_s1 n f) (List.range f.Sections.length) (fun i out => (out, (i : Int))) (fun (out : Int) (i : Nat) => (some (bif stuckI f i == 1 then .inr (2, 0) else .inl (bif stuckI f i == 3 then 3 else out)) : Option (Int ⊕ (Int × Int)))) (fun out => .inr out) (fun e => .inl e) (n := n) (fun i x b hx => by
      have hi : i < f.Sections.length := by have := (List.getElem?_eq_some_iff.1 hx).1; simpa using this
      have hxi : x = i := by rw [List.getElem?_range hi] at hx; exact (Option.some.inj hx).symm
      subst hxi
      obtain ⟨k1, k2⟩ := free_known hn hf hi
      have hp := sides_pos (hf.s _ (secAt_mem hi))
      have j1 := knownI_two (so := (sidesL (secAt f x)).countP (fun y => !stuckP f x y)) hp
      have j2 := knownI_three (so := (sidesL (secAt f x)).countP (fun y => !stuckP f x y)) (all := (sidesL (secAt f x)).length)
      have q1 : (knownI ((sidesL (secAt f x)).countP (fun y => !stuckP f x y)) (sidesL (secAt f x)).length == 2) = (stuckI f x == 1) := by
        rw [Bool.eq_iff_iff]; simp only [beq_iff_eq]; rw [j1, k1]
      have q2 : (knownI ((sidesL (secAt f x)).countP (fun y => !stuckP f x y)) (sidesL (secAt f x)).length == 3) = (stuckI f x == 3) := by
        rw [Bool.eq_iff_iff]; simp only [beq_iff_eq]; rw [j2, k2]
      simp only [F_ref01_Opens_s1, lt_nat, hi, decide_true, if_true, p_free hn hf hi, p_is hn, Option.bind_some, w64_nat (show x ≤ 4611686018427387904 by omega), some_br, q1, q2]
      cases (stuckI f x == 1) <;> cases (stuckI f x == 3) <;> rfl) (fun b => by simp [F_ref01_Opens_s1]) (by simp; omega) 1
    simp only [Int.natCast_zero] at this
    rw [foldO_two (fun i => stuckI f i == 1) (fun i => stuckI f i == 3) (2, 0) 3 _ _ (fun s x _ => rfl)] at this
    simp only [ho, if_true, bne_self_eq_false, Bool.false_eq_true, if_false, this, Option.bind_some]
    unfold opensI
    cases (List.range f.Sections.length).any (fun i => stuckI f i == 1) <;> cases (List.range f.Sections.length).any (fun i => stuckI f i == 3) <;> rfl
  · simp [ho]
theorem p_Blame01 {f : Frame} (hl : f.Sections.length ≤ 1000) : F_ref01_Blame n f = some (blameT f) := by
  simp only [F_ref01_Blame, p_Check01 hn hl, Option.bind_some, blameT]
  by_cases ho : okF f = true
  · have hf := okF_iff.1 ho
    have := loop_fold (step := F_ref01_Blame_s1 n f) (List.range f.Sections.length) (fun i o => ((i : Int), o)) (fun o i => if (stuckI f i == 1) = true then o ++ [(i : Int)] else o) (fun o => o) (fun i o => o.length ≤ i) (n := n) ([] : List Int) (by simp) (fun i x b hx hb => by
      have hi : i < f.Sections.length := by have := (List.getElem?_eq_some_iff.1 hx).1; simpa using this
      have hxi : x = i := by rw [List.getElem?_range hi] at hx; exact (Option.some.inj hx).symm
      subst hxi
      refine ⟨?_, by split <;> (try rw [List.length_append, List.length_singleton]) <;> omega⟩
      obtain ⟨k1, _⟩ := free_known hn hf hi
      have q1 : ((((sidesL (secAt f x)).countP (fun y => !stuckP f x y) : Nat) : Int) == 0) = (stuckI f x == 1) := by
        rw [Bool.eq_iff_iff]; simp only [beq_iff_eq]; rw [← k1]; omega
      simp only [F_ref01_Blame_s1, lt_nat, hi, decide_true, if_true, p_free hn hf hi, q1, Option.bind_some, w64_nat (show x ≤ 4611686018427387904 by omega)]
      rw [lim_ok (by simp; omega)]
      cases (stuckI f x == 1) <;> rfl) (fun b _ => by simp [F_ref01_Blame_s1]) (by simp; omega)
    simp only [Int.natCast_zero] at this
    have e : ∀ (l : List Nat) (o : List Int), l.foldl (fun o i => if (stuckI f i == 1) = true then o ++ [(i : Int)] else o) o = o ++ ((l.filter fun i => stuckI f i == 1).map fun i : Nat => (i : Int)) := by
      intro l
      induction l with
      | nil => intro o; simp
      | cons a l ih =>
        intro o
        rw [List.foldl_cons, ih]
        cases h : (stuckI f a == 1) <;> simp [h]
    simp only [ho, if_true, bne_self_eq_false, Bool.false_eq_true, if_false, this.1, Option.bind_some, e, List.nil_append]
    rfl
  · simp [ho]
theorem p_Closes01 {f : Frame} (hl : f.Sections.length ≤ 1000) : F_ref01_Closes n f = some (closesT f) := by
  simp only [F_ref01_Closes, p_Check01 hn hl, Option.bind_some, closesT]
  by_cases ho : okF f = true
  · have hf := okF_iff.1 ho
    have hrod := hf.rod
    have := loop_fold (step := F_ref01_Closes_s1 n f) f.Sections (fun i (z : Int × Int) => (z.1, z.2, (i : Int))) (fun z s => (max z.1 s.Arm.Low, max z.2 s.Arm.High)) (fun z => z) (fun i z => 0 ≤ z.1 ∧ z.1 ≤ 2000 ∧ 0 ≤ z.2 ∧ z.2 ≤ 2000) (n := n) (0, 0) (by simp) (fun i x b hx hb => by
      have hi := (List.getElem?_eq_some_iff.1 hx).1
      have ha := (hf.s x (List.mem_of_getElem? hx)).a
      refine ⟨?_, by simp only; omega⟩
      simp only [F_ref01_Closes_s1, geti_nat, hx, lt_nat, hi, decide_true, if_true, Option.bind_some, w64_nat (show i ≤ 4611686018427387904 by omega)]) (fun b _ => by simp [F_ref01_Closes_s1]) (by omega)
    simp only [Int.natCast_zero] at this
    obtain ⟨h1, h2⟩ := this
    rw [foldl_pair (fun m (s : Section) => max m s.Arm.Low) (fun m (s : Section) => max m s.Arm.High)] at h1 h2
    simp only at h1 h2
    have e1 : f.Sections.foldl (fun m s => max m s.Arm.Low) 0 = armLow f := rfl
    have e2 : f.Sections.foldl (fun m s => max m s.Arm.High) 0 = armHigh f := rfl
    rw [e1, e2] at h1 h2
    simp only [ho, if_true, bne_self_eq_false, Bool.false_eq_true, if_false, h1, Option.bind_some]
    rw [w64_id (n := f.Rod + armHigh f) (by omega) (by omega), w64_id (n := f.Rod + armLow f) (by omega) (by omega)]
    unfold closesI
    by_cases c1 : f.Rod + armHigh f ≤ f.Case
    · simp [c1]
    · by_cases c2 : f.Case < f.Rod + armLow f
      · simp [c1, c2]
      · simp [c1, c2]
  · simp [ho]
theorem p_Copy01 {f : Frame} (hl : f.Sections.length ≤ 1000) : F_ref01_Copy n f = some f := by
  have _hn := hn
  simp only [F_ref01_Copy, List.nil_append]
  rw [lim_ok (by omega)]
  rfl
/-- what a statement examines -/
def Ok (f : Frame) : Prop := okF f = true ∧ f.High - f.Low < 60
theorem p_Far (f : Frame) : F_law01_Far n f = some true ∨ (F_law01_Far n f = some false ∧ f.Sections.length ≤ 40 ∧ (okF f = true → Ok f)) := by
  simp only [F_law01_Far]
  by_cases h : f.Sections.length ≤ 40
  · have e : decide (40 < (f.Sections.length : Int)) = false := by simp; omega
    rw [e]
    simp only [Bool.false_eq_true, if_false, p_Check01 hn (f := f) (by omega), Option.bind_some]
    by_cases ho : okF f = true
    · have hr := (okF_iff.1 ho).r
      rw [w64_id (by omega) (by omega)]
      by_cases hb : 60 ≤ f.High - f.Low
      · left; simp [ho, hb]
      · right
        refine ⟨by simp [ho, hb], h, fun _ => ⟨ho, by omega⟩⟩
    · right
      refine ⟨by simp [ho], h, fun h => absurd h ho⟩
  · left
    have e : decide (40 < (f.Sections.length : Int)) = true := by simp; omega
    rw [e]; rfl
theorem p_ready (f : Frame) : F_law01_ready n f = some false ∨ (F_law01_ready n f = some true ∧ Ok f) := by
  simp only [F_law01_ready]
  rcases p_Far hn f with h | ⟨h, hl, hok⟩
  · left; simp [h]
  · by_cases ho : okF f = true
    · right; exact ⟨by simp [h, p_Check01 hn (f := f) (by omega), ho], hok ho⟩
    · left; simp [h, p_Check01 hn (f := f) (by omega), ho]
theorem p_isAsk {f : Frame} (hl : f.Sections.length ≤ 1000) (x : law01_Ask) : F_law01_isAsk n f x = some (wi x.Section 0 ((f.Sections.length : Int) - 1) && wi x.R f.Low f.High) := by
  simp only [F_law01_isAsk, p_IsSection hn hl, p_IsPosition hn, Option.bind_some, and_br]
theorem p_sameInts (a : List Int) (hl : a.length ≤ 10000) : F_law01_sameInts n a a = some true := by
  have := loop_all_l (step := F_law01_sameInts_s1 n a a) a (fun y => true) false (n := n) (by omega) (fun i y hy hi => by
    simp only [F_law01_sameInts_s1, geti_nat, hy, Option.bind_some, lt_nat, hi, decide_true, if_true, w64_nat (show i ≤ 4611686018427387904 by omega), cond_true]
    simp) (by simp [F_law01_sameInts_s1]) (by omega)
  simp only [F_law01_sameInts, this, Option.bind_some]
  have e : (a.all fun _ => true) = true := by simp
  rw [e]
  simp
theorem p_same {f : Frame} (hl : f.Sections.length ≤ 1000) : F_law01_same n f f = some true := by
  have k1 := loop_all_l (step := F_law01_same_s1 n f f) f.Sections (fun y => true) false (n := n) (by omega) (fun i y hy hi => by
    simp only [F_law01_same_s1, geti_nat, hy, Option.bind_some, lt_nat, hi, decide_true, if_true, w64_nat (show i ≤ 4611686018427387904 by omega), cond_true]
    simp) (by simp [F_law01_same_s1]) (by omega)
  have e1 : (f.Sections.all fun _ => true) = true := by simp
  simp only [F_law01_same, k1, e1, cond_true, Option.bind_some]
  simp
end
set_option maxRecDepth 1000000 in
theorem works_ok : F_law01_works 100000000 = some true := by kernel_rfl
theorem works_at : ∃ n, 100000000 ≤ n ∧ F_law01_works n = some true := ⟨100000000, Nat.le_refl _, works_ok⟩
theorem blame_len (f : Frame) (h : f.Sections.length ≤ 1000) : (blameT f).1.length ≤ 10000 := by
  unfold blameT
  split
  · simp only [blameL, List.length_map]
    have := List.length_filter_le (fun i => stuckI f i == 1) (List.range f.Sections.length)
    rw [List.length_range] at this
    omega
  · simp
end Go.Proofs.Ytmgnhaibbeinbaa
