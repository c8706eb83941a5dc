/-
  The plain layer of frames: what is asked for.
-/
import Derived.Test.YteihdclpiekmaaaLfPfa
namespace Go.Proofs.Yteihdclpiekmaaa
open Go Go.RowKit Go.Dec
set_option linter.unusedVariables false

def bindsP (d : Int) (e : Frac) (x : frames_sides) : Bool := d == 0 || !ltF (cosF d x) ⟨e.Den - e.Num, e.Den⟩ || !ltF ⟨-(e.Den - e.Num), e.Den⟩ (cosF d x)
def knownI (so all : Nat) : Int := if (so : Int) == (all : Int) then 1 else if (so : Int) == 0 then 2 else 3
def K (s : Section) (p : frames_sides → Bool) : Int := knownI ((sidesL s).countP p) (sidesL s).length
def secAt (f : Frame) (i : Nat) : Section := (f.Sections[i]?).getD ⟨⟨0, 0⟩, ⟨0, 0⟩, 0, ⟨0, 0⟩⟩
def bindsI (f : Frame) (i : Nat) (r : Int) : Int := K (secAt f i) (bindsP (dist f i r) f.Ease)
def posL (f : Frame) : List Int := down f.High f.Low
def stuckP (f : Frame) (i : Nat) (x : frames_sides) : Bool := (posL f).any fun r => bindsP (dist f i r) f.Ease x
def stuckI (f : Frame) (i : Nat) : Int := K (secAt f i) (stuckP f i)
def turnQ (x : frames_sides) (d1 d2 : Int) : Bool := decide (0 < d1) && decide (0 < d2) && ltF (cosF d1 x) (cosF d2 x)
def turnsP (f : Frame) (i : Nat) (x : frames_sides) : Bool := (down (f.High - 1) f.Low).any fun r => turnQ x (dist f i (r + 1)) (dist f i r)
def turnsI (f : Frame) (i : Nat) : Int := K (secAt f i) (turnsP f i)
def firstO (f : Frame) : Option (Int × Int) := (posL f).findSome? fun r => (List.range f.Sections.length).findSome? fun i => if bindsI f i r = 2 then none else some (r, (i : Int))
def firstT (f : Frame) : Int × Int × Int := if okF f = true then (match firstO f with | some (r, i) => (i, r, 0) | none => (0, 0, 3)) else (0, 0, 10)
def opensI (f : Frame) : Int := bif (List.range f.Sections.length).any (fun i => stuckI f i == 1) then 2 else bif (List.range f.Sections.length).any (fun i => stuckI f i == 3) then 3 else 1
def opensT (f : Frame) : Int × Int := if okF f = true then (opensI f, 0) else (0, 10)
def blameL (f : Frame) : List Int := ((List.range f.Sections.length).filter fun i => stuckI f i == 1).map fun i : Nat => (i : Int)
def blameT (f : Frame) : List Int × Int := if okF f = true then (blameL f, 0) else ([], 10)
def armLow (f : Frame) : Int := f.Sections.foldl (fun m s => max m s.Arm.Low) 0
def armHigh (f : Frame) : Int := f.Sections.foldl (fun m s => max m s.Arm.High) 0
def closesI (f : Frame) : Int := if f.Rod + armHigh f ≤ f.Case then 1 else if f.Case < f.Rod + armLow f then 2 else 3
def closesT (f : Frame) : Int × Int := if okF f = true then (closesI f, 0) else (0, 10)
def askT (f : Frame) (sec r : Int) : Int := if okF f = true then (if (wi sec 0 ((f.Sections.length : Int) - 1) && wi r f.Low f.High) = true then 0 else 1) else 10
def distanceT (f : Frame) (sec r : Int) : Int × Int := if askT f sec r = 0 then (dist f sec.toNat r, 0) else (0, askT f sec r)
def bindsT (f : Frame) (sec r : Int) : Int × Int := if askT f sec r = 0 then (bindsI f sec.toNat r, 0) else (0, askT f sec r)
def turnsT (f : Frame) (sec : Int) : Int × Int := if askT f sec f.Low = 0 then (turnsI f sec.toNat, 0) else (0, askT f sec f.Low)
def lowF (d : Int) : List frames_sides → Frac
  | [] => ⟨0, 0⟩
  | a :: l => l.foldl (fun m x => if ltF (cosF d x) m = true then cosF d x else m) (cosF d a)
def highF (d : Int) : List frames_sides → Frac
  | [] => ⟨0, 0⟩
  | a :: l => l.foldl (fun m x => if ltF m (cosF d x) = true then cosF d x else m) (cosF d a)
def cosineT (f : Frame) (sec r : Int) : Frac × Frac × Int :=
  if askT f sec r = 0 then (if dist f sec.toNat r = 0 then (⟨0, 0⟩, ⟨0, 0⟩, 3) else (red (lowF (dist f sec.toNat r) (sidesL (secAt f sec.toNat))), red (highF (dist f sec.toNat r) (sidesL (secAt f sec.toNat))), 0)) else (⟨0, 0⟩, ⟨0, 0⟩, askT f sec r)

theorem secAt_get {f : Frame} {i : Nat} (h : i < f.Sections.length) : f.Sections[i]? = some (secAt f i) := by simp [secAt, h]
theorem secAt_mem {f : Frame} {i : Nat} (h : i < f.Sections.length) : secAt f i ∈ f.Sections := List.mem_of_getElem? (secAt_get h)
theorem askT_ok {f : Frame} {sec r : Int} (h : askT f sec r = 0) : FOk f ∧ (sec = (sec.toNat : Int) ∧ sec.toNat < f.Sections.length) ∧ f.Low ≤ r ∧ r ≤ f.High := by
  unfold askT at h
  by_cases ho : okF f = true
  · rw [if_pos ho] at h
    by_cases hc : (wi sec 0 ((f.Sections.length : Int) - 1) && wi r f.Low f.High) = true
    · simp only [Bool.and_eq_true, wi_t] at hc
      exact ⟨okF_iff.1 ho, ⟨by omega, by omega⟩, hc.2⟩
    · rw [if_neg hc] at h; cases h
  · rw [if_neg ho] at h; cases h
theorem low_ok {d : Int} (hd : 1 ≤ d ∧ d ≤ 6000) : ∀ (l : List frames_sides), (∀ x ∈ l, XOk x) → l ≠ [] → FracOk (lowF d l) ∧ FracOk (highF d l)
  | [], _, h => absurd rfl h
  | a :: l, hx, _ => by
    have ha := (cos_ok hd (hx a (List.mem_cons_self ..))).1
    have key : ∀ (l : List frames_sides) (m m' : Frac), (∀ x ∈ l, XOk x) → FracOk m → FracOk m' → FracOk (l.foldl (fun m x => if ltF (cosF d x) m = true then cosF d x else m) m) ∧ FracOk (l.foldl (fun m x => if ltF m (cosF d x) = true then cosF d x else m) m') := by
      intro l
      induction l with
      | nil => intro m m' _ h1 h2; exact ⟨h1, h2⟩
      | cons b l ih =>
        intro m m' hx h1 h2
        have hb := (cos_ok hd (hx b (List.mem_cons_self ..))).1
        simp only [List.foldl_cons]
        exact ih _ _ (fun x h => hx x (List.mem_cons_of_mem _ h)) (by split <;> assumption) (by split <;> assumption)
    exact key l _ _ (fun x h => hx x (List.mem_cons_of_mem _ h)) ha ha
theorem sides_ne {s : Section} (hs : SecOk s) : sidesL s ≠ [] := fun e => by
  have := hs.a; have := hs.b
  have : (⟨s.Arm.Low, s.Stretch.Low⟩ : frames_sides) ∈ sidesL s := sides_mem.2 ⟨by simp only; omega, by simp only; omega⟩
  rw [e] at this; cases this
theorem span_len7 {a b : Int} (h : b - a ≤ 6) : (span a b).length ≤ 7 := by rw [span_len]; omega
theorem flatMap_len' {α β : Type} (f : α → List β) (m : Nat) : ∀ (l : List α), (∀ x ∈ l, (f x).length ≤ m) → (l.flatMap f).length ≤ l.length * m
  | [], _ => by simp
  | a :: l, h => by
    rw [List.flatMap_cons, List.length_append, List.length_cons, Nat.succ_mul]
    have h1 := h a (List.mem_cons_self ..)
    have h2 := flatMap_len' f m l (fun x hx => h x (List.mem_cons_of_mem _ hx))
    omega
theorem sides_len {s : Section} (hs : SecOk s) : (sidesL s).length ≤ 49 := by
  have h := flatMap_len' (fun a => (span s.Stretch.Low s.Stretch.High).map fun b => (⟨a, b⟩ : frames_sides)) 7 (span s.Arm.Low s.Arm.High) (fun x _ => by rw [List.length_map]; exact span_len7 hs.b.2.2.2)
  have h2 := span_len7 hs.a.2.2.2
  have h3 : (sidesL s).length = ((span s.Arm.Low s.Arm.High).flatMap fun a => (span s.Stretch.Low s.Stretch.High).map fun b => (⟨a, b⟩ : frames_sides)).length := rfl
  rw [h3]
  omega
theorem p_sbinds (n : Nat) {d : Int} (hd : 0 ≤ d ∧ d ≤ 6000) {x : frames_sides} (hx : XOk x) {e : Frac} (he : 1 ≤ e.Den ∧ e.Den ≤ 20 ∧ 0 ≤ e.Num ∧ e.Num ≤ e.Den) : F_frames_sides_binds n x d e = some (bindsP d e x) := by
  simp only [F_frames_sides_binds]
  by_cases h0 : d = 0
  · subst h0; simp [bindsP]
  · have hc := (cos_ok (d := d) (by omega) hx).1
    obtain ⟨⟨c1, c2⟩, c3, c4⟩ := hc
    rw [if_neg (by simpa using h0), p_cosine n (by omega) hx, w64_id (n := e.Den - e.Num) (by omega) (by omega), w64_id (n := -(e.Den - e.Num)) (by omega) (by omega)]
    simp only [Option.bind_some]
    rw [p_compare n ⟨c3, c4, by omega, c2⟩ (by simp only; omega), p_compare n ⟨c3, c4, by omega, c2⟩ (by simp only; omega)]
    simp only [Option.bind_some, or_br]
    have e1 : decide (0 ≤ cmpF (cosF d x) ⟨e.Den - e.Num, e.Den⟩) = !ltF (cosF d x) ⟨e.Den - e.Num, e.Den⟩ := by
      rw [Bool.eq_iff_iff]; simp only [decide_eq_true_eq, Bool.not_eq_true', ← Bool.not_eq_true, ← cmp_lt]; omega
    have e2 : decide (cmpF (cosF d x) ⟨-(e.Den - e.Num), e.Den⟩ ≤ 0) = !ltF ⟨-(e.Den - e.Num), e.Den⟩ (cosF d x) := by
      rw [Bool.eq_iff_iff]; simp only [decide_eq_true_eq, Bool.not_eq_true', ← Bool.not_eq_true, ← cmp_gt]; omega
    have e3 : (d == 0) = false := by simpa using h0
    rw [e1, e2]
    simp only [bindsP, e3, Bool.false_or]

section
variable {n : Nat} (hn : 100000000 ≤ n)
include hn
theorem p_truths {s : Section} (hs : SecOk s) {σ ρ : Type} (cs : σ → frames_sides → Option (σ ⊕ ρ)) (st : σ) : I_frames_truths_1 n s cs st = foldO cs st (sidesL s) := by
  have ha := hs.a; have hb := hs.b
  have inner : ∀ (a : Int) (st : σ), loopO n (I_frames_truths_1_s2 s a cs) (s.Stretch.Low, st) = foldO cs st ((span s.Stretch.Low s.Stretch.High).map fun b => (⟨a, b⟩ : frames_sides)) := fun a st => by
    rw [foldO_map]
    refine loop_up (fun st b => cs st ⟨a, b⟩) _ _ _ _ rfl (fun b st h1 h2 => ?_) (fun b st h1 h2 => ?_) (by omega)
    · simp only [I_frames_truths_1_s2]
      rw [if_pos (by simpa using h2), w64_id (by omega) (by omega)]
      rfl
    · simp only [I_frames_truths_1_s2]
      rw [if_neg (by simp; omega)]
  unfold I_frames_truths_1
  rw [show sidesL s = (span s.Arm.Low s.Arm.High).flatMap fun a => (span s.Stretch.Low s.Stretch.High).map fun b => (⟨a, b⟩ : frames_sides) from rfl, foldO_flatMap]
  refine loop_up (fun st a => foldO cs st ((span s.Stretch.Low s.Stretch.High).map fun b => (⟨a, b⟩ : frames_sides))) _ _ _ _ rfl (fun b st h1 h2 => ?_) (fun b st h1 h2 => ?_) (by omega)
  · simp only [I_frames_truths_1_s1]
    rw [if_pos (by simpa using h2), inner, w64_id (by omega) (by omega)]
    rfl
  · simp only [I_frames_truths_1_s1]
    rw [if_neg (by simp; omega)]
theorem p_positions {f : Frame} (hf : FOk f) {σ ρ : Type} (cs : σ → Int → Option (σ ⊕ ρ)) (st : σ) : I_frames_positions_1 n f cs st = foldO cs st (posL f) := by
  have hr := hf.r
  unfold I_frames_positions_1 posL
  refine loop_down cs _ _ _ _ rfl (fun b st h1 h2 => ?_) (fun b st h1 h2 => ?_) (by omega)
  · simp only [I_frames_positions_1_s]
    rw [if_pos (by simpa using h1), w64_id (by omega) (by omega)]
    rfl
  · simp only [I_frames_positions_1_s]
    rw [if_neg (by simp; omega)]
theorem p_known {s : Section} (hs : SecOk s) (is : frames_sides → Option Bool) (p : frames_sides → Bool) (h : ∀ x ∈ sidesL s, is x = some (p x)) : F_frames_known n s is = some (K s p) := by
  have hl := sides_len hs
  simp only [F_frames_known, F_frames_truths, Option.bind_some, p_truths hn hs]
  obtain ⟨k1, k2⟩ := foldO_foldl (ρ := Unit) (cs := F_frames_known_s1 n is) (fun (z : Int × Int) x => (z.1 + 1, if p x = true then z.2 + 1 else z.2)) (fun i z => z.1 = i ∧ 0 ≤ z.2 ∧ z.2 ≤ i) (sidesL s) 0 (0, 0) (by simp) (fun i z x hi hx hz => by
    refine ⟨?_, by simp only; omega, ?_⟩
    · simp only [F_frames_known_s1, h x hx, Option.bind_some]
      rw [w64_id (n := z.1 + 1) (by omega) (by omega), w64_id (n := z.2 + 1) (by omega) (by omega)]
      cases p x <;> rfl
    · simp only; split <;> omega)
  rw [k1, foldl_pair (fun (a : Int) x => a + 1) (fun (b : Int) x => if p x = true then b + 1 else b), foldl_count]
  have e : (sidesL s).foldl (fun (a : Int) x => a + 1) 0 = ((sidesL s).length : Int) := by
    have := foldl_count (fun _ => true) (sidesL s) 0
    simp only [if_true, Int.zero_add] at this
    rw [this]; simp
  rw [e]
  simp only [Option.bind_some, some_br, K, knownI, Int.zero_add]
theorem p_stuck {f : Frame} (hf : FOk f) {i : Nat} (hi : i < f.Sections.length) : F_frames_stuck n f i = some (stuckI f i) := by
  have hrr := hf.r
  have hs := hf.s _ (secAt_mem hi)
  simp only [F_frames_stuck, geti_nat, secAt_get hi, Option.bind_some]
  rw [p_known hn hs _ (stuckP f i) (fun x hx => by
    simp only [F_frames_stuck_1, F_frames_positions, Option.bind_some, p_positions hn hf]
    rw [foldO_any (fun r => bindsP (dist f i r) f.Ease x) true (posL f) (fun r hr => by
      have hr' := down_mem.1 hr
      simp only [F_frames_stuck_1_s1, p_distance hn hf hi (r := r) (by omega), Option.bind_some, p_sbinds n (dist_in hf (r := r) (by omega) i) (sides_ok hs hx) hf.e]
      cases bindsP (dist f i r) f.Ease x <;> rfl)]
    unfold stuckP
    cases (posL f).any fun r => bindsP (dist f i r) f.Ease x <;> rfl)]
  rfl
theorem p_ask {f : Frame} (hl : f.Sections.length ≤ 1000) (sec r : Int) : F_frames_ask n f sec r = some (askT f sec r) := by
  simp only [F_frames_ask, p_Check hn hl, p_within, Option.bind_some, or_br, askT]
  by_cases ho : okF f = true
  · simp only [ho, if_true]
    rw [w64_id (by omega) (by omega)]
    cases wi sec 0 ((f.Sections.length : Int) - 1) <;> cases wi r f.Low f.High <;> rfl
  · simp [ho]
theorem p_Opens {f : Frame} (hl : f.Sections.length ≤ 1000) : F_frames_Opens n f = some (opensT f) := by
  simp only [F_frames_Opens, p_Check hn hl, Option.bind_some, opensT]
  by_cases ho : okF f = true
  · have hf := okF_iff.1 ho
    have := loop_walk (step := F_frames_Opens_s1 n f) (List.range f.Sections.length) (fun i out => (out, (i : Int))) (fun (out : Int) (i : Nat) => (some (bif stuckI f i == 1 then .inr (2, 0) else .inl (bif stuckI f i == 3 then 3 else out)) : Option (Int ⊕ (Int × Int)))) (fun out => .inr out) (fun e => .inl e) (n := n) (fun i x b hx => by
      have hi : i < f.Sections.length := by have := (List.getElem?_eq_some_iff.1 hx).1; simpa using this
      have hxi : x = i := by rw [List.getElem?_range hi] at hx; exact (Option.some.inj hx).symm
      subst hxi
      simp only [F_frames_Opens_s1, lt_nat, hi, decide_true, if_true, p_stuck hn hf hi, Option.bind_some, w64_nat (show x ≤ 4611686018427387904 by omega), some_br]
      cases (stuckI f x == 1) <;> cases (stuckI f x == 3) <;> rfl) (fun b => by simp [F_frames_Opens_s1]) (by simp; omega) 1
    simp only [Int.natCast_zero] at this
    rw [foldO_two (fun i => stuckI f i == 1) (fun i => stuckI f i == 3) (2, 0) 3 _ _ (fun s x _ => rfl)] at this
    simp only [ho, if_true, bne_self_eq_false, Bool.false_eq_true, if_false, this, Option.bind_some]
    unfold opensI
    cases (List.range f.Sections.length).any (fun i => stuckI f i == 1) <;> cases (List.range f.Sections.length).any (fun i => stuckI f i == 3) <;> rfl
  · simp [ho]
theorem p_Cosine {f : Frame} (hl : f.Sections.length ≤ 1000) (sec r : Int) : F_frames_Cosine n f sec r = some (cosineT f sec r) := by
  simp only [F_frames_Cosine, p_ask hn hl, Option.bind_some, cosineT]
  by_cases h : askT f sec r = 0
  · obtain ⟨h1, ⟨h2, h3⟩, h4⟩ := askT_ok h
    have hr := h1.r
    have hs := h1.s _ (secAt_mem h3)
    have e := p_distance hn h1 h3 (r := r) (by omega)
    rw [← h2] at e
    have hd := dist_in h1 (r := r) (by omega) sec.toNat
    have e2 : geti f.Sections sec = some (secAt f sec.toNat) := by
      have := secAt_get h3
      rw [← geti_nat, ← h2] at this
      exact this
    simp only [h, bne_self_eq_false, Bool.false_eq_true, if_false, if_true, e, Option.bind_some]
    by_cases h0 : dist f sec.toNat r = 0
    · simp [h0]
    · have h0' : (dist f sec.toNat r == 0) = false := by simpa using h0
      simp only [h0', Bool.false_eq_true, if_false, h0, e2, Option.bind_some, F_frames_truths, p_truths hn hs]
      generalize dist f sec.toNat r = d at *
      have hd' : 1 ≤ d ∧ d ≤ 6000 := by omega
      have hx : ∀ x ∈ sidesL (secAt f sec.toNat), XOk x := fun x hx => sides_ok hs hx
      have hne := sides_ne hs
      generalize sidesL (secAt f sec.toNat) = l at *
      cases l with
      | nil => exact absurd rfl hne
      | cons a tl =>
        obtain ⟨⟨⟨c1, c2⟩, c3, c4⟩, _⟩ := cos_ok hd' (hx a (List.mem_cons_self ..))
        have s0 : F_frames_Cosine_s1 n d (0, 0, 0, 0) a = some (.inl ((cosF d a).Num, (cosF d a).Den, (cosF d a).Num, (cosF d a).Den)) := by
          simp [F_frames_Cosine_s1, p_cosine n hd' (hx a (List.mem_cons_self ..))]
        obtain ⟨k1, k2⟩ := foldO_foldl (ρ := Unit) (cs := F_frames_Cosine_s1 n d) (fun (z : Int × Int × Int × Int) x => ((if ltF ⟨z.1, z.2.1⟩ (cosF d x) = true then (cosF d x).Num else z.1), (if ltF ⟨z.1, z.2.1⟩ (cosF d x) = true then (cosF d x).Den else z.2.1), (if ltF (cosF d x) ⟨z.2.2.1, z.2.2.2⟩ = true then (cosF d x).Num else z.2.2.1), (if ltF (cosF d x) ⟨z.2.2.1, z.2.2.2⟩ = true then (cosF d x).Den else z.2.2.2))) (fun i z => FracOk ⟨z.1, z.2.1⟩ ∧ FracOk ⟨z.2.2.1, z.2.2.2⟩) tl 0 ((cosF d a).Num, (cosF d a).Den, (cosF d a).Num, (cosF d a).Den) ⟨⟨⟨c1, c2⟩, c3, c4⟩, ⟨⟨c1, c2⟩, c3, c4⟩⟩ (fun i z x _ hxm hz => by
          have hxo := hx x (List.mem_cons_of_mem _ hxm)
          obtain ⟨⟨b1, b2⟩, b3, b4⟩ := (cos_ok hd' hxo).1
          obtain ⟨z1, z2, z3, z4⟩ := z
          obtain ⟨⟨⟨q1, q2⟩, q3, q4⟩, ⟨w1, w2⟩, w3, w4⟩ := hz
          simp only at q1 q2 q3 q4 w1 w2 w3 w4
          refine ⟨?_, ?_⟩
          · have n2 : (z2 == 0) = false := by simp; omega
            have n4 : (z4 == 0) = false := by simp; omega
            have e5 : decide (cmpF (cosF d x) ⟨z3, z4⟩ < 0) = ltF (cosF d x) ⟨z3, z4⟩ := by
              rw [Bool.eq_iff_iff]; simp only [decide_eq_true_eq, cmp_lt]
            have e6 : decide (0 < cmpF (cosF d x) ⟨z1, z2⟩) = ltF ⟨z1, z2⟩ (cosF d x) := by
              rw [Bool.eq_iff_iff]; simp only [decide_eq_true_eq, cmp_gt]
            simp only [F_frames_Cosine_s1, p_cosine n hd' hxo, Option.bind_some, n2, n4, Bool.false_eq_true, if_false, p_compare n ⟨b3, b4, by omega, b2⟩ (show -40000000 ≤ (Frac.mk z3 z4).Num ∧ (Frac.mk z3 z4).Num ≤ 40000000 ∧ 0 ≤ (Frac.mk z3 z4).Den ∧ (Frac.mk z3 z4).Den ≤ 24000000 by simp only; omega), p_compare n ⟨b3, b4, by omega, b2⟩ (show -40000000 ≤ (Frac.mk z1 z2).Num ∧ (Frac.mk z1 z2).Num ≤ 40000000 ∧ 0 ≤ (Frac.mk z1 z2).Den ∧ (Frac.mk z1 z2).Den ≤ 24000000 by simp only; omega), e5, e6]
            cases ltF (cosF d x) ⟨z3, z4⟩ <;> cases ltF ⟨z1, z2⟩ (cosF d x) <;> rfl
          · constructor
            · simp only
              cases ltF ⟨z1, z2⟩ (cosF d x)
              · exact ⟨⟨q1, q2⟩, q3, q4⟩
              · exact ⟨⟨b1, b2⟩, b3, b4⟩
            · simp only
              cases ltF (cosF d x) ⟨z3, z4⟩
              · exact ⟨⟨w1, w2⟩, w3, w4⟩
              · exact ⟨⟨b1, b2⟩, b3, b4⟩)
        have key : ∀ (tl : List frames_sides) (h l : Frac), tl.foldl (fun (z : Int × Int × Int × Int) x => ((if ltF ⟨z.1, z.2.1⟩ (cosF d x) = true then (cosF d x).Num else z.1), (if ltF ⟨z.1, z.2.1⟩ (cosF d x) = true then (cosF d x).Den else z.2.1), (if ltF (cosF d x) ⟨z.2.2.1, z.2.2.2⟩ = true then (cosF d x).Num else z.2.2.1), (if ltF (cosF d x) ⟨z.2.2.1, z.2.2.2⟩ = true then (cosF d x).Den else z.2.2.2))) (h.Num, h.Den, l.Num, l.Den) =
            ((tl.foldl (fun m x => if ltF m (cosF d x) = true then cosF d x else m) h).Num, (tl.foldl (fun m x => if ltF m (cosF d x) = true then cosF d x else m) h).Den, (tl.foldl (fun m x => if ltF (cosF d x) m = true then cosF d x else m) l).Num, (tl.foldl (fun m x => if ltF (cosF d x) m = true then cosF d x else m) l).Den) := by
          intro tl
          induction tl with
          | nil => intro h l; rfl
          | cons b tl ih =>
            intro h l
            simp only [List.foldl_cons]
            rw [← ih]
            congr 1
            cases ltF h (cosF d b) <;> cases ltF (cosF d b) l <;> rfl
        rw [foldO, s0]
        simp only [Option.bind_some]
        rw [k1, key]
        have hlo := low_ok hd' (a :: tl) hx (by simp)
        have e7 : tl.foldl (fun m x => if ltF m (cosF d x) = true then cosF d x else m) (cosF d a) = highF d (a :: tl) := rfl
        have e8 : tl.foldl (fun m x => if ltF (cosF d x) m = true then cosF d x else m) (cosF d a) = lowF d (a :: tl) := rfl
        rw [e7, e8]
        simp only [Option.bind_some, p_reduced hn hlo.1, p_reduced hn hlo.2]
  · simp [h]
end
end Go.Proofs.Yteihdclpiekmaaa
