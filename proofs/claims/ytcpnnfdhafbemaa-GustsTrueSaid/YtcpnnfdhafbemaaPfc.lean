/-
  The plain layer of the reference of frames.
-/
import Derived.Test.YtcpnnfdhafbemaaPfb
namespace Go.Proofs.Ytcpnnfdhafbemaa
open Go Go.RowKit Go.Dec
set_option linter.unusedVariables false

theorem knownI_one {so all : Nat} : knownI so all = 1 ↔ so = all := by
  unfold knownI
  by_cases h : so = all
  · subst h; simp
  · have : ((so : Int) == (all : Int)) = false := by simp; omega
    rw [this]
    by_cases h0 : so = 0
    · subst h0; simp [h]
    · have : ((so : Int) == 0) = false := by simp; omega
      rw [this]; simp [h]
theorem knownI_two {so all : Nat} (h1 : 1 ≤ all) : knownI so all = 2 ↔ so = 0 := by
  unfold knownI
  by_cases h : so = all
  · have : ((so : Int) == (all : Int)) = true := by simp; omega
    rw [this]; simp; omega
  · have : ((so : Int) == (all : Int)) = false := by simp; omega
    rw [this]
    by_cases h0 : so = 0
    · subst h0; simp
    · have : ((so : Int) == 0) = false := by simp; omega
      rw [this]; simp [h0]
theorem knownI_three {so all : Nat} : knownI so all = 3 ↔ so ≠ all ∧ so ≠ 0 := by
  unfold knownI
  by_cases h : so = all
  · have : ((so : Int) == (all : Int)) = true := by simp; omega
    rw [this]; simp [h]
  · have : ((so : Int) == (all : Int)) = false := by simp; omega
    rw [this]
    by_cases h0 : so = 0
    · subst h0; simp
    · have : ((so : Int) == 0) = false := by simp; omega
      rw [this]; simp [h0, h]
theorem knownI_mem {so all : Nat} : knownI so all = 1 ∨ knownI so all = 2 ∨ knownI so all = 3 := by
  unfold knownI; split
  · exact .inl rfl
  · split
    · exact .inr (.inl rfl)
    · exact .inr (.inr rfl)
theorem sides_pos {s : Section} (hs : SecOk s) : 1 ≤ (sidesL s).length := by
  have := sides_ne hs
  cases h : sidesL s with
  | nil => exact absurd h this
  | cons a l => simp
def toP (x : frames_sides) : ref01_Pair := ⟨x.arm, x.stretch⟩
def toS (x : ref01_Pair) : frames_sides := ⟨x.Arm, x.Stretch⟩
def pairsL (s : Section) : List ref01_Pair := (sidesL s).map toP
theorem p_within01 (n : Nat) (a b c : Int) : F_ref01_Within n a b c = some (wi a b c) := rfl
theorem frac_b {x : Frac} (h : FracOk x) : -40000000 ≤ x.Num ∧ x.Num ≤ 40000000 ∧ 0 ≤ x.Den ∧ x.Den ≤ 24000000 := ⟨h.2.1, h.2.2, by have := h.1.1; omega, h.1.2⟩
section
variable {n : Nat} (hn : 100000000 ≤ n)
include hn
theorem p_Check01 {f : Frame} (hl : f.Sections.length ≤ 1000) : F_ref01_Check n f = some (if okF f = true then 0 else 10) := by
  have h1 := loop_all_l (step := F_ref01_Check_s1 n f) f.Sections okSec (10 : Int) (n := n) (by omega) (fun i x hx hi => by
    simp only [F_ref01_Check_s1, F_ref01_isLong, F_ref01_isShare, geti_nat, hx, Option.bind_some, p_within01, and_br, or_br, lt_nat, hi, decide_true, if_true, w64_nat (show i ≤ 4611686018427387904 by omega)]
    have e : (!(wi x.Arm.Low 1 x.Arm.High && decide (x.Arm.High ≤ 2000) && decide (w64 (x.Arm.High - x.Arm.Low) ≤ 6)) || !(wi x.Stretch.Low 1 x.Stretch.High && decide (x.Stretch.High ≤ 2000) && decide (w64 (x.Stretch.High - x.Stretch.Low) ≤ 6)) || !wi x.Base 0 2000 || !(wi x.Gear.Den 1 20 && wi x.Gear.Num 0 x.Gear.Den)) = !okSec x := by
      simp only [okSec, okSpan, okShare, Bool.not_and, Bool.or_assoc]
    rw [e]
    cases okSec x <;> rfl) (by simp [F_ref01_Check_s1]) (by omega)
  simp only [F_ref01_Check, h1, Option.bind_some]
  cases ha : f.Sections.all okSec with
  | false =>
    have : okF f = false := by simp [okF, ha]
    rw [this]; rfl
  | true =>
    simp only [cond_true, F_ref01_isShare, p_within01, Option.bind_some, and_br, or_br]
    have e : (!wi f.Sections.length 1 3 || !wi f.Low 1 f.High || decide (2000 < f.High) || decide (200 < w64 (f.High - f.Low)) || !(wi f.Ease.Den 1 20 && wi f.Ease.Num 0 f.Ease.Den) || !wi f.Rod 0 4000 || !wi f.Case 0 4000) = !okF f := by
      simp only [okF, okShare, ha, Bool.not_and, Bool.or_assoc, Bool.not_true, Bool.false_or, ← decide_not, Int.not_le]
    rw [e]
    cases okF f <;> rfl
theorem p_Pairs {f : Frame} (hf : FOk f) {i : Nat} (hi : i < f.Sections.length) : F_ref01_Pairs n f i = some (pairsL (secAt f i)) := by
  have hs := hf.s _ (secAt_mem hi)
  have ha := hs.a; have hb := hs.b
  simp only [F_ref01_Pairs, geti_nat, secAt_get hi, Option.bind_some]
  generalize secAt f i = s at *
  have inner : ∀ (a : Int) (out : List ref01_Pair), out.length ≤ 1000 → loopO n (F_ref01_Pairs_s2 n s a) (s.Stretch.Low, out) = some (out ++ (span s.Stretch.Low s.Stretch.High).map fun b => (⟨a, b⟩ : ref01_Pair)) := fun a out ho => by
    have := loop_span_fold (step := F_ref01_Pairs_s2 n s a) (hi := s.Stretch.High) (fun b o => (b, o)) (fun o b => o ++ [(⟨a, b⟩ : ref01_Pair)]) (fun o => o) (fun b o => (o.length : Int) ≤ 1000 + (b - s.Stretch.Low)) _ s.Stretch.Low out n rfl (by omega) (fun b o h1 h2 h3 => by
      refine ⟨?_, by rw [List.length_append, List.length_singleton]; omega⟩
      simp only [F_ref01_Pairs_s2]
      rw [if_pos (by simpa using h2), lim_ok (by rw [List.length_append, List.length_singleton]; omega), w64_id (by omega) (by omega)]
      rfl) (fun b o h1 _ _ => by
      simp only [F_ref01_Pairs_s2]
      rw [if_neg (by simp; omega)]) (by omega)
    rw [this.1, foldl_append_map]
  have := loop_span_fold (step := F_ref01_Pairs_s1 n s) (hi := s.Arm.High) (fun b o => (b, o)) (fun o a => o ++ (span s.Stretch.Low s.Stretch.High).map fun b => (⟨a, b⟩ : ref01_Pair)) (fun o => o) (fun b o => (o.length : Int) ≤ 7 * (b - s.Arm.Low)) _ s.Arm.Low ([] : List ref01_Pair) n rfl (by simp) (fun b o h1 h2 h3 => by
    have h7 := span_len7 hb.2.2.2
    refine ⟨?_, by rw [List.length_append, List.length_map]; omega⟩
    simp only [F_ref01_Pairs_s1]
    rw [if_pos (by simpa using h2), inner b o (by omega), w64_id (by omega) (by omega)]
    rfl) (fun b o h1 _ _ => by
    simp only [F_ref01_Pairs_s1]
    rw [if_neg (by simp; omega)]) (by omega)
  rw [this.1]
  have e : ∀ (l : List Int) (o : List ref01_Pair), l.foldl (fun o a => o ++ (span s.Stretch.Low s.Stretch.High).map fun b => (⟨a, b⟩ : ref01_Pair)) o = o ++ (l.flatMap fun a => (span s.Stretch.Low s.Stretch.High).map fun b => (⟨a, b⟩ : frames_sides)).map toP := by
    intro l
    induction l with
    | nil => intro o; simp
    | cons a l ih =>
      intro o
      rw [List.foldl_cons, ih, List.flatMap_cons, List.map_append, List.map_map]
      simp [toP, Function.comp_def]
  rw [e]
  rfl
theorem p_Reduced {x : Frac} (h : FracOk x) : F_ref01_Reduced n x.Num x.Den = some (red x) := by
  have := p_gcd hn h (F_ref01_Reduced_s1 n) (fun a => by simp [F_ref01_Reduced_s1]) (fun a b hb => by
    have hz : nz b = some () := by unfold nz; rw [if_neg hb]
    simp [F_ref01_Reduced_s1, hb, hz])
  obtain ⟨h1, h2, h3⟩ := red_w h
  simp only [F_ref01_Reduced, this, Option.bind_some, h1, h2, h3]
theorem p_CosineOf {d : Int} (hd : 0 ≤ d ∧ d ≤ 6000) {p : ref01_Pair} (hp : XOk (toS p)) : F_ref01_CosineOf n d p = some (if d = 0 then (⟨0, 0⟩, false) else (red (cosF d (toS p)), true)) := by
  simp only [F_ref01_CosineOf]
  by_cases h0 : d = 0
  · simp [h0]
  · have hd' : 1 ≤ d ∧ d ≤ 6000 := by omega
    have hc := cos_ok hd' hp
    obtain ⟨⟨⟨k1, k2⟩, k3, k4⟩, h1, h2, h3⟩ := hc
    simp only [cosF, toS] at k1 k2 k3 k4 h1 h2 h3
    have h0' : (d == 0) = false := by simpa using h0
    simp only [h0', Bool.false_eq_true, if_false, h0]
    rw [w64_id (n := d * d) (by omega) (by omega), w64_id (n := p.Arm * p.Arm) (by omega) (by omega), w64_id (n := p.Stretch * p.Stretch) (by omega) (by omega), w64_id (n := 2 * d) (by omega) (by omega), w64_id (n := 2 * d * p.Arm) (by omega) (by omega), w64_id (n := d * d + p.Arm * p.Arm) (by omega) (by omega), w64_id (n := d * d + p.Arm * p.Arm - p.Stretch * p.Stretch) (by omega) (by omega)]
    have := p_Reduced hn (cos_ok hd' hp).1
    simp only [cosF, toS] at this
    rw [this]
    rfl
theorem count_pairs (s : Section) (p : frames_sides → Bool) : (pairsL s).countP (fun x => p (toS x)) = (sidesL s).countP p := by
  have _hn := hn
  unfold pairsL
  rw [List.countP_map]
  rfl
theorem pairs_ok {s : Section} (hs : SecOk s) {p : ref01_Pair} (h : p ∈ pairsL s) : XOk (toS p) := by
  have _hn := hn
  obtain ⟨x, hx, rfl⟩ := List.mem_map.1 h
  exact sides_ok hs hx
theorem pairs_len (s : Section) : (pairsL s).length = (sidesL s).length := by
  have _hn := hn
  simp [pairsL]
/-- a loop over pairs that counts -/
theorem p_count {s : Section} (hs : SecOk s) (step : Int × Int → Option ((Int × Int) ⊕ Int)) (q : ref01_Pair → Bool)
    (h : ∀ (i : Nat) x (c : Int), (pairsL s)[i]? = some x → 0 ≤ c ∧ c ≤ 1000 → step (c, (i : Int)) = some (.inl (if q x = true then c + 1 else c, ((i + 1 : Nat) : Int)))) (hd : ∀ c, step (c, ((pairsL s).length : Int)) = some (.inr c)) :
    loopO n step (0, 0) = some (((pairsL s).countP q : Nat) : Int) := by
  have hl := sides_len hs
  have hl2 := pairs_len hn s
  have := loop_fold (step := step) (pairsL s) (fun i c => (c, (i : Int))) (fun c x => if q x = true then c + 1 else c) (fun c => c) (fun i c => 0 ≤ c ∧ c ≤ i) (n := n) (0 : Int) (by omega) (fun i x b hx hb => by
    have hi := (List.getElem?_eq_some_iff.1 hx).1
    exact ⟨h i x b hx (by omega), by split <;> omega⟩) (fun b _ => hd b) (by omega)
  simp only [Int.natCast_zero] at this
  rw [this.1, foldl_count]
  simp
theorem low_red {d : Int} (hd : 1 ≤ d ∧ d ≤ 6000) : ∀ (l : List frames_sides) (m m' : Frac), (∀ x ∈ l, XOk x) → FracOk m → FracOk m' →
    l.foldl (fun m x => if ltF (red (cosF d x)) m = true then red (cosF d x) else m) (red m) = red (l.foldl (fun m x => if ltF (cosF d x) m = true then cosF d x else m) m) ∧
    l.foldl (fun m x => if ltF m (red (cosF d x)) = true then red (cosF d x) else m) (red m') = red (l.foldl (fun m x => if ltF m (cosF d x) = true then cosF d x else m) m') := by
  have _hn := hn
  intro l
  induction l with
  | nil => intro m m' _ _ _; exact ⟨rfl, rfl⟩
  | cons b l ih =>
    intro m m' hx h1 h2
    have hb := (cos_ok hd (hx b (List.mem_cons_self ..))).1
    simp only [List.foldl_cons]
    rw [ltF_red hb.1.1 h1.1.1, ltF_red h2.1.1 hb.1.1]
    have := ih (if ltF (cosF d b) m = true then cosF d b else m) (if ltF m' (cosF d b) = true then cosF d b else m') (fun x h => hx x (List.mem_cons_of_mem _ h)) (by split <;> assumption) (by split <;> assumption)
    rw [← this.1, ← this.2]
    constructor
    · congr 1; split <;> rfl
    · congr 1; split <;> rfl
end
end Go.Proofs.Ytcpnnfdhafbemaa
