/-
  The plain layer of frames: what is valid, distances, cosines.
-/
import Derived.Test.YteihdclpiekmaaaLfGenK7
import Derived.Test.YteihdclpiekmaaaEngR
namespace Go.Proofs.Yteihdclpiekmaaa
open Go Go.RowKit Go.Dec
set_option linter.unusedVariables false

theorem or_br (c b : Bool) : (if c = true then some true else some b) = some (c || b) := by cases c <;> rfl
theorem and_br (c b : Bool) : (if c = true then some b else some false) = some (c && b) := by cases c <;> rfl
theorem some_br {α : Type} (c : Bool) (a b : α) : (if c = true then some a else some b) = some (if c = true then a else b) := by cases c <;> rfl
theorem lt_nat (i k : Nat) : decide ((i : Int) < (k : Int)) = decide (i < k) := by simp
def wi (n lo hi : Int) : Bool := decide (lo ≤ n) && decide (n ≤ hi)
theorem wi_t {n lo hi : Int} : wi n lo hi = true ↔ lo ≤ n ∧ n ≤ hi := by simp [wi]
theorem p_within (n : Nat) (a b c : Int) : F_frames_within n a b c = some (wi a b c) := rfl

def okSpan (s : Span) : Bool := wi s.Low 1 s.High && decide (s.High ≤ 2000) && decide (w64 (s.High - s.Low) ≤ 6)
def okShare (x : Frac) : Bool := wi x.Den 1 20 && wi x.Num 0 x.Den
def okSec (s : Section) : Bool := okSpan s.Arm && okSpan s.Stretch && wi s.Base 0 2000 && okShare s.Gear
def okF (f : Frame) : Bool := wi f.Sections.length 1 3 && f.Sections.all okSec && (wi f.Low 1 f.High && decide (f.High ≤ 2000) && decide (w64 (f.High - f.Low) ≤ 200)) && okShare f.Ease && wi f.Rod 0 4000 && wi f.Case 0 4000
structure SecOk (s : Section) : Prop where
  a : 1 ≤ s.Arm.Low ∧ s.Arm.Low ≤ s.Arm.High ∧ s.Arm.High ≤ 2000 ∧ s.Arm.High - s.Arm.Low ≤ 6
  b : 1 ≤ s.Stretch.Low ∧ s.Stretch.Low ≤ s.Stretch.High ∧ s.Stretch.High ≤ 2000 ∧ s.Stretch.High - s.Stretch.Low ≤ 6
  c : 0 ≤ s.Base ∧ s.Base ≤ 2000
  d : 1 ≤ s.Gear.Den ∧ s.Gear.Den ≤ 20 ∧ 0 ≤ s.Gear.Num ∧ s.Gear.Num ≤ s.Gear.Den
structure FOk (f : Frame) : Prop where
  n : 1 ≤ f.Sections.length ∧ f.Sections.length ≤ 3
  s : ∀ s ∈ f.Sections, SecOk s
  r : 1 ≤ f.Low ∧ f.Low ≤ f.High ∧ f.High ≤ 2000 ∧ f.High - f.Low ≤ 200
  e : 1 ≤ f.Ease.Den ∧ f.Ease.Den ≤ 20 ∧ 0 ≤ f.Ease.Num ∧ f.Ease.Num ≤ f.Ease.Den
  rod : 0 ≤ f.Rod ∧ f.Rod ≤ 4000
  case : 0 ≤ f.Case ∧ f.Case ≤ 4000
theorem okSpan_iff {s : Span} : okSpan s = true ↔ 1 ≤ s.Low ∧ s.Low ≤ s.High ∧ s.High ≤ 2000 ∧ s.High - s.Low ≤ 6 := by
  simp only [okSpan, Bool.and_eq_true, wi_t, decide_eq_true_eq]
  constructor
  · rintro ⟨⟨⟨h1, h2⟩, h3⟩, h4⟩
    rw [w64_id (by omega) (by omega)] at h4
    exact ⟨h1, h2, h3, h4⟩
  · rintro ⟨h1, h2, h3, h4⟩
    refine ⟨⟨⟨h1, h2⟩, h3⟩, ?_⟩
    rw [w64_id (by omega) (by omega)]; exact h4
theorem okShare_iff {x : Frac} : okShare x = true ↔ 1 ≤ x.Den ∧ x.Den ≤ 20 ∧ 0 ≤ x.Num ∧ x.Num ≤ x.Den := by
  simp only [okShare, Bool.and_eq_true, wi_t]
  constructor
  · rintro ⟨⟨h1, h2⟩, h3, h4⟩; exact ⟨h1, h2, h3, h4⟩
  · rintro ⟨h1, h2, h3, h4⟩; exact ⟨⟨h1, h2⟩, h3, h4⟩
theorem okSec_iff {s : Section} : okSec s = true ↔ SecOk s := by
  simp only [okSec, Bool.and_eq_true, okSpan_iff, okShare_iff, wi_t]
  constructor
  · rintro ⟨⟨⟨h1, h2⟩, h3⟩, h4⟩; exact ⟨h1, h2, h3, h4⟩
  · rintro ⟨h1, h2, h3, h4⟩; exact ⟨⟨⟨h1, h2⟩, h3⟩, h4⟩
theorem okF_iff {f : Frame} : okF f = true ↔ FOk f := by
  simp only [okF, Bool.and_eq_true, okShare_iff, wi_t, List.all_eq_true, okSec_iff, decide_eq_true_eq]
  constructor
  · rintro ⟨⟨⟨⟨⟨h1, h2⟩, ⟨h3, h4⟩, h5⟩, h6⟩, h7⟩, h8⟩
    rw [w64_id (by omega) (by omega)] at h5
    exact ⟨by omega, h2, by omega, h6, h7, h8⟩
  · rintro ⟨h1, h2, h3, h4, h5, h6⟩
    refine ⟨⟨⟨⟨⟨by omega, h2⟩, ⟨by omega, by omega⟩, ?_⟩, h4⟩, h5⟩, h6⟩
    rw [w64_id (by omega) (by omega)]; omega

section
variable {n : Nat} (hn : 100000000 ≤ n)
include hn
theorem p_ContainsSec (s : List Section) (f : Section → Option Bool) (p : Section → Bool) (hf : ∀ x, x ∈ s → f x = some (p x)) (hs : s.length ≤ 1000) : F_slices_ContainsFunc___api_Section_api_Section_ n s f = some (s.any p) := by
  have : ∃ k, F_slices_IndexFunc___api_Section_api_Section_ n s f = some k ∧ decide (0 ≤ k) = s.any p := by
    by_cases h : s.any p = true
    · have : ∃ i : Nat, ∃ x, s[i]? = some x ∧ p x = true ∧ ∀ (j : Nat) y, j < i → s[j]? = some y → p y = false := first_of h
      obtain ⟨i, x, h1, h2, h3⟩ := this
      have hil := (List.getElem?_eq_some_iff.1 h1).1
      refine ⟨i, ?_, by rw [h]; simp⟩
      have := loop_run (step := F_slices_IndexFunc___api_Section_api_Section__s1 n s f) (fun j => (j : Int)) (r := .inl (i : Int)) i 0 n (fun j _ hj => ?_) ?_ (by omega)
      · unfold F_slices_IndexFunc___api_Section_api_Section_
        simp only [Int.natCast_zero] at this
        rw [this]; rfl
      · have hj' : j < s.length := by omega
        have e : s[j]? = some s[j] := List.getElem?_eq_getElem hj'
        simp only [F_slices_IndexFunc___api_Section_api_Section__s1, geti_nat, e, Option.bind_some, hf _ (List.getElem_mem hj'), h3 j _ (by omega) e, lt_nat, hj', decide_true, if_true, Bool.false_eq_true, if_false, w64_nat (show j ≤ 4611686018427387904 by omega)]
      · simp only [Nat.zero_add, F_slices_IndexFunc___api_Section_api_Section__s1, geti_nat, h1, Option.bind_some, hf _ (List.mem_of_getElem? h1), h2, lt_nat, hil, decide_true, if_true]
    · have hno : ∀ x ∈ s, p x = false := fun x hx => by
        cases hp : p x with
        | false => rfl
        | true => exact absurd (List.any_eq_true.2 ⟨x, hx, hp⟩) h
      refine ⟨-1, ?_, by simp only [Bool.not_eq_true] at h; rw [h]; rfl⟩
      have := loop_all_l (step := F_slices_IndexFunc___api_Section_api_Section__s1 n s f) s (fun _ => true) (0 : Int) (n := n) (by omega) (fun i x hx hi => ?_) ?_ (by omega)
      · unfold F_slices_IndexFunc___api_Section_api_Section_; rw [this, show (s.all fun _ => true) = true by simp]; rfl
      · simp only [F_slices_IndexFunc___api_Section_api_Section__s1, geti_nat, hx, Option.bind_some, hf _ (List.mem_of_getElem? hx), hno _ (List.mem_of_getElem? hx), lt_nat, hi, decide_true, if_true, cond_true, Bool.false_eq_true, if_false, w64_nat (show i ≤ 4611686018427387904 by omega)]
      · simp [F_slices_IndexFunc___api_Section_api_Section__s1]
  obtain ⟨k, h1, h2⟩ := this
  simp only [F_slices_ContainsFunc___api_Section_api_Section_, h1, Option.bind_some, h2]
theorem p_Check_1 (s : Section) : F_frames_Check_1 n s = some (!okSec s) := by
  have _hn := hn
  simp only [F_frames_Check_1, F_frames_isPart, F_frames_isShare, p_within, Option.bind_some, and_br, or_br]
  have e : (!(wi s.Arm.Low 1 s.Arm.High && decide (s.Arm.High ≤ 2000) && decide (w64 (s.Arm.High - s.Arm.Low) ≤ 6)) || !(wi s.Stretch.Low 1 s.Stretch.High && decide (s.Stretch.High ≤ 2000) && decide (w64 (s.Stretch.High - s.Stretch.Low) ≤ 6)) || !wi s.Base 0 2000 || !(wi s.Gear.Den 1 20 && wi s.Gear.Num 0 s.Gear.Den)) = !okSec s := by
    simp only [okSec, okSpan, okShare, Bool.not_and, Bool.or_assoc]
  rw [e]
theorem p_Check {f : Frame} (hl : f.Sections.length ≤ 1000) : F_frames_Check n f = some (if okF f = true then 0 else 10) := by
  simp only [F_frames_Check, F_frames_isShare, p_within, Option.bind_some, and_br, or_br, p_ContainsSec hn f.Sections (fun a => F_frames_Check_1 n a) (fun s => !okSec s) (fun s _ => p_Check_1 hn s) hl]
  have e0 : (f.Sections.any fun s => !okSec s) = !f.Sections.all okSec := by simp [List.any_eq_not_all_not]
  rw [e0]
  have e : (!wi f.Sections.length 1 3 || !f.Sections.all okSec || !(wi f.Low 1 f.High && decide (f.High ≤ 2000) && decide (w64 (f.High - f.Low) ≤ 200)) || !(wi f.Ease.Den 1 20 && wi f.Ease.Num 0 f.Ease.Den) || !wi f.Rod 0 4000 || !wi f.Case 0 4000) = !okF f := by
    simp only [okF, okShare, Bool.not_and, Bool.or_assoc]
  rw [e]
  cases okF f <;> rfl
end

/-! ### distances -/
def gearStep (r : Int) (s : Section) : Int := s.Base + (r * s.Gear.Num).tdiv s.Gear.Den
def dist (f : Frame) (i : Nat) (r : Int) : Int := ((f.Sections.take (i + 1)).drop 1).foldl gearStep r
theorem gear_in {s : Section} (hs : SecOk s) {r A : Int} (h0 : 0 ≤ r) (hA : r ≤ A) : 0 ≤ gearStep r s ∧ gearStep r s ≤ 2000 + A ∧ 0 ≤ r * s.Gear.Num ∧ r * s.Gear.Num ≤ A * 20 ∧ 0 ≤ (r * s.Gear.Num).tdiv s.Gear.Den ∧ (r * s.Gear.Num).tdiv s.Gear.Den ≤ A := by
  obtain ⟨_, _, hc, hd⟩ := hs
  have h1 := mul_in h0 hA hd.2.2.1 (show s.Gear.Num ≤ 20 by omega)
  have h2 : r * s.Gear.Num ≤ r * s.Gear.Den := Int.mul_le_mul_of_nonneg_left hd.2.2.2 h0
  have h3 : (r * s.Gear.Num).tdiv s.Gear.Den = r * s.Gear.Num / s.Gear.Den := Int.tdiv_eq_ediv_of_nonneg h1.1
  have h4 : 0 ≤ r * s.Gear.Num / s.Gear.Den := Int.ediv_nonneg h1.1 (by omega)
  have h5 : r * s.Gear.Num / s.Gear.Den ≤ r := Int.ediv_le_of_le_mul (by omega) h2
  rw [h3]
  unfold gearStep
  rw [h3]
  refine ⟨by omega, by omega, h1.1, h1.2, h4, by omega⟩
theorem fold_in : ∀ (l : List Section) (r A : Int), (∀ s ∈ l, SecOk s) → 0 ≤ r → r ≤ A → 0 ≤ l.foldl gearStep r ∧ l.foldl gearStep r ≤ A + 2000 * l.length
  | [], r, A, _, h1, h2 => by simp; omega
  | s :: l, r, A, hs, h1, h2 => by
    obtain ⟨k1, k2, _⟩ := gear_in (hs s (List.mem_cons_self ..)) h1 h2
    have := fold_in l (gearStep r s) (2000 + A) (fun x hx => hs x (List.mem_cons_of_mem _ hx)) k1 k2
    simp only [List.foldl_cons, List.length_cons]
    omega
theorem dist_in {f : Frame} (hf : FOk f) {r : Int} (hr : 0 ≤ r ∧ r ≤ 2000) (i : Nat) : 0 ≤ dist f i r ∧ dist f i r ≤ 6000 := by
  have h := fold_in ((f.Sections.take (i + 1)).drop 1) r 2000 (fun s hs => hf.s s (List.mem_of_mem_take (List.mem_of_mem_drop hs))) hr.1 hr.2
  have hl : ((f.Sections.take (i + 1)).drop 1).length ≤ 2 := by
    have := hf.n
    simp only [List.length_drop, List.length_take]
    omega
  unfold dist
  omega
theorem dist_succ {f : Frame} {i : Nat} {s : Section} (h : f.Sections[i + 1]? = some s) (r : Int) : dist f (i + 1) r = gearStep (dist f i r) s := by
  unfold dist
  have e : (f.Sections.take (i + 1 + 1)).drop 1 = (f.Sections.take (i + 1)).drop 1 ++ [s] := by
    rw [List.take_add_one, h]
    have hl := (List.getElem?_eq_some_iff.1 h).1
    rw [List.drop_append_of_le_length (by simp; omega)]
    rfl
  rw [e, List.foldl_append]
  rfl
section
variable {n : Nat} (hn : 100000000 ≤ n)
include hn
theorem p_distance {f : Frame} (hf : FOk f) {i : Nat} (hi : i < f.Sections.length) {r : Int} (hr : 0 ≤ r ∧ r ≤ 2000) : F_frames_distance n f i r = some (dist f i r) := by
  have hl := hf.n
  have e1 : w64 ((i : Int) + 1) = ((i + 1 : Nat) : Int) := w64_nat (by omega)
  have e2 : slc f.Sections 1 (((i + 1 : Nat) : Int)) = some ((f.Sections.take (i + 1)).drop 1) := by
    unfold slc
    rw [if_pos (by omega)]
    simp
  simp only [F_frames_distance, e1, e2, Option.bind_some]
  have hlen : ((f.Sections.take (i + 1)).drop 1).length ≤ 2 := by simp; omega
  have := loop_fold (step := F_frames_distance_s1 n ((f.Sections.take (i + 1)).drop 1)) ((f.Sections.take (i + 1)).drop 1) (fun j r => (r, (j : Int))) gearStep (fun r => r) (fun j r => 0 ≤ r ∧ r ≤ 2000 + 2000 * j) (n := n) r (by omega) (fun j s b hj hb => by
    have hjl := (List.getElem?_eq_some_iff.1 hj).1
    have hs := hf.s s (List.mem_of_mem_take (List.mem_of_mem_drop (List.mem_of_getElem? hj)))
    obtain ⟨k1, k2, k3, k4, k5, k6⟩ := gear_in hs hb.1 hb.2
    refine ⟨?_, k1, by omega⟩
    have hd := hs.d
    have hc := hs.c
    have hnz : nz s.Gear.Den = some () := by unfold nz; rw [if_neg (by omega)]
    have hge : gearStep b s = s.Base + (b * s.Gear.Num).tdiv s.Gear.Den := rfl
    simp only [F_frames_distance_s1, geti_nat, hj, Option.bind_some, hnz, lt_nat, hjl, decide_true, if_true, w64_nat (show j ≤ 4611686018427387904 by omega)]
    rw [w64_id (n := b * s.Gear.Num) (by omega) (by omega), w64_id (n := (b * s.Gear.Num).tdiv s.Gear.Den) (by omega) (by omega), w64_id (by omega) (by omega), hge]) (fun b _ => by simp [F_frames_distance_s1]) (by omega)
  simp only [Int.natCast_zero] at this
  rw [this.1]
  rfl
end

/-! ### sides, cosines -/
def sidesL (s : Section) : List frames_sides := (span s.Arm.Low s.Arm.High).flatMap fun a => (span s.Stretch.Low s.Stretch.High).map fun b => ⟨a, b⟩
theorem sides_mem {s : Section} {x : frames_sides} : x ∈ sidesL s ↔ (s.Arm.Low ≤ x.arm ∧ x.arm ≤ s.Arm.High) ∧ (s.Stretch.Low ≤ x.stretch ∧ x.stretch ≤ s.Stretch.High) := by
  simp only [sidesL, List.mem_flatMap, List.mem_map, span_mem']
  constructor
  · rintro ⟨a, ha, b, hb, rfl⟩; exact ⟨ha, hb⟩
  · rintro ⟨ha, hb⟩; exact ⟨x.arm, ha, x.stretch, hb, rfl⟩
def cosF (d : Int) (x : frames_sides) : Frac := ⟨d * d + x.arm * x.arm - x.stretch * x.stretch, 2 * d * x.arm⟩
def ltF (x y : Frac) : Bool := decide (x.Num * y.Den < y.Num * x.Den)
structure XOk (x : frames_sides) : Prop where
  a : 1 ≤ x.arm ∧ x.arm ≤ 2000
  b : 1 ≤ x.stretch ∧ x.stretch ≤ 2000
theorem sides_ok {s : Section} (hs : SecOk s) {x : frames_sides} (h : x ∈ sidesL s) : XOk x := by
  have := sides_mem.1 h
  have := hs.a; have := hs.b
  exact ⟨by omega, by omega⟩
/-- a cosine's numbers stay small -/
def FracOk (x : Frac) : Prop := (1 ≤ x.Den ∧ x.Den ≤ 24000000) ∧ -40000000 ≤ x.Num ∧ x.Num ≤ 40000000
theorem cos_ok {d : Int} (hd : 1 ≤ d ∧ d ≤ 6000) {x : frames_sides} (hx : XOk x) : FracOk (cosF d x) ∧ (0 ≤ d * d ∧ d * d ≤ 36000000) ∧ (0 ≤ x.arm * x.arm ∧ x.arm * x.arm ≤ 4000000) ∧ (0 ≤ x.stretch * x.stretch ∧ x.stretch * x.stretch ≤ 4000000) := by
  have h1 := mul_in (show 0 ≤ d by omega) hd.2 (show 0 ≤ d by omega) hd.2
  have h2 := mul_in (show 0 ≤ x.arm by have := hx.a; omega) hx.a.2 (show 0 ≤ x.arm by have := hx.a; omega) hx.a.2
  have h3 := mul_in (show 0 ≤ x.stretch by have := hx.b; omega) hx.b.2 (show 0 ≤ x.stretch by have := hx.b; omega) hx.b.2
  have h4 := mul_in (show 0 ≤ 2 * d by omega) (show 2 * d ≤ 12000 by omega) (show 0 ≤ x.arm by have := hx.a; omega) hx.a.2
  have h5 : 1 * 1 ≤ 2 * d * x.arm := Int.mul_le_mul (by omega) hx.a.1 (by omega) (by omega)
  refine ⟨⟨⟨by simp only [cosF]; omega, by simp only [cosF]; omega⟩, by simp only [cosF]; omega, by simp only [cosF]; omega⟩, by omega, by omega, by omega⟩
theorem p_cosine (n : Nat) {d : Int} (hd : 1 ≤ d ∧ d ≤ 6000) {x : frames_sides} (hx : XOk x) : F_frames_sides_cosine n x d = some (cosF d x) := by
  obtain ⟨⟨⟨k1, k2⟩, k3, k4⟩, h1, h2, h3⟩ := cos_ok hd hx
  simp only [cosF] at k1 k2 k3 k4
  simp only [F_frames_sides_cosine, cosF]
  rw [w64_id (n := d * d) (by omega) (by omega), w64_id (n := x.arm * x.arm) (by omega) (by omega), w64_id (n := x.stretch * x.stretch) (by omega) (by omega), w64_id (n := 2 * d) (by omega) (by omega), w64_id (n := 2 * d * x.arm) (by omega) (by omega), w64_id (n := d * d + x.arm * x.arm) (by omega) (by omega), w64_id (by omega) (by omega)]
def cmpF (x y : Frac) : Int := if x.Num * y.Den < y.Num * x.Den then -1 else if y.Num * x.Den < x.Num * y.Den then 1 else 0
theorem p_compare (n : Nat) {x y : Frac} (h1 : -40000000 ≤ x.Num ∧ x.Num ≤ 40000000 ∧ 0 ≤ x.Den ∧ x.Den ≤ 24000000) (h2 : -40000000 ≤ y.Num ∧ y.Num ≤ 40000000 ∧ 0 ≤ y.Den ∧ y.Den ≤ 24000000) : F_frames_compare n x y = some (cmpF x y) := by
  have a := mul_abs h1.1 h1.2.1 h2.2.2.1 h2.2.2.2
  have b := mul_abs h2.1 h2.2.1 h1.2.2.1 h1.2.2.2
  simp only [F_frames_compare, F_cmp_Compare_int_, F_cmp_isNaN_int_, Option.bind_some, bne_self_eq_false, Bool.false_eq_true, if_false]
  rw [w64_id (n := x.Num * y.Den) (by omega) (by omega), w64_id (n := y.Num * x.Den) (by omega) (by omega)]
  unfold cmpF
  by_cases h : x.Num * y.Den < y.Num * x.Den
  · simp [h]
  · by_cases h' : y.Num * x.Den < x.Num * y.Den
    · simp [h, h']
    · simp [h, h']
theorem cmp_lt {x y : Frac} : (cmpF x y < 0) ↔ ltF x y = true := by
  unfold cmpF ltF
  split
  · simp [*]
  · split
    · simp [*]
    · simp [*]
theorem cmp_gt {x y : Frac} : (0 < cmpF x y) ↔ ltF y x = true := by
  unfold cmpF ltF
  split
  · rename_i h
    simp; omega
  · split
    · simp [*]
    · simp [*]

/-! ### reduced -/
def red (x : Frac) : Frac := ⟨x.Num.tdiv (Int.gcd x.Num x.Den : Nat), x.Den.tdiv (Int.gcd x.Num x.Den : Nat)⟩
theorem red_spec {x : Frac} (h : 1 ≤ x.Den) : ∃ g : Int, 1 ≤ g ∧ g = (Int.gcd x.Num x.Den : Nat) ∧ x.Num = g * (red x).Num ∧ x.Den = g * (red x).Den ∧ 1 ≤ (red x).Den := by
  have hg : 0 < Int.gcd x.Num x.Den := Int.gcd_pos_of_ne_zero_right _ (by omega)
  obtain ⟨a, ha⟩ := Int.gcd_dvd_left x.Num x.Den
  obtain ⟨b, hb⟩ := Int.gcd_dvd_right x.Num x.Den
  have hne : ((Int.gcd x.Num x.Den : Nat) : Int) ≠ 0 := by omega
  have ea : (red x).Num = a := by
    show x.Num.tdiv _ = a
    conv => lhs; arg 1; rw [ha]
    exact Int.mul_tdiv_cancel_left _ hne
  have eb : (red x).Den = b := by
    show x.Den.tdiv _ = b
    conv => lhs; arg 1; rw [hb]
    exact Int.mul_tdiv_cancel_left _ hne
  refine ⟨(Int.gcd x.Num x.Den : Nat), by omega, rfl, by rw [ea]; exact ha, by rw [eb]; exact hb, ?_⟩
  rw [eb]
  rcases Int.lt_or_le 0 b with h' | h'
  · omega
  · exfalso
    have := Int.mul_le_mul_of_nonneg_left h' (show 0 ≤ ((Int.gcd x.Num x.Den : Nat) : Int) by omega)
    omega
theorem ltF_scale {g g' a b c d : Int} (h : 1 ≤ g) (h' : 1 ≤ g') : ltF ⟨g * a, g * b⟩ ⟨g' * c, g' * d⟩ = ltF ⟨a, b⟩ ⟨c, d⟩ := by
  unfold ltF
  have e1 : g * a * (g' * d) = g * g' * (a * d) := by simp [Int.mul_comm, Int.mul_left_comm]
  have e2 : g' * c * (g * b) = g * g' * (c * b) := by simp [Int.mul_comm, Int.mul_left_comm]
  have hp : 0 < g * g' := Int.mul_pos (by omega) (by omega)
  simp only [e1, e2, decide_eq_decide]
  exact ⟨fun k => Int.lt_of_mul_lt_mul_left k (by omega), fun k => Int.mul_lt_mul_of_pos_left k hp⟩
theorem ltF_red {x y : Frac} (hx : 1 ≤ x.Den) (hy : 1 ≤ y.Den) : ltF (red x) (red y) = ltF x y := by
  obtain ⟨g, h1, _, h2, h3, _⟩ := red_spec hx
  obtain ⟨g', k1, _, k2, k3, _⟩ := red_spec hy
  have := ltF_scale (a := (red x).Num) (b := (red x).Den) (c := (red y).Num) (d := (red y).Den) h1 k1
  rw [← h2, ← h3, ← k2, ← k3] at this
  exact this.symm
theorem ltF_red_l {x y : Frac} (hx : 1 ≤ x.Den) : ltF (red x) y = ltF x y := by
  obtain ⟨g, h1, _, h2, h3, _⟩ := red_spec hx
  have := ltF_scale (a := (red x).Num) (b := (red x).Den) (c := y.Num) (d := y.Den) h1 (show (1 : Int) ≤ 1 by omega)
  rw [← h2, ← h3, Int.one_mul, Int.one_mul] at this
  exact this.symm
theorem ltF_red_r {x y : Frac} (hy : 1 ≤ y.Den) : ltF x (red y) = ltF x y := by
  obtain ⟨g, h1, _, h2, h3, _⟩ := red_spec hy
  have := ltF_scale (a := x.Num) (b := x.Den) (c := (red y).Num) (d := (red y).Den) (show (1 : Int) ≤ 1 by omega) h1
  rw [← h2, ← h3, Int.one_mul, Int.one_mul] at this
  exact this.symm
/-- reduced numbers are no greater -/
theorem red_ok {x : Frac} (h : FracOk x) : FracOk (red x) := by
  obtain ⟨⟨h1, h2⟩, h3, h4⟩ := h
  obtain ⟨g, k1, _, k2, k3, k4⟩ := red_spec h1
  refine ⟨⟨k4, ?_⟩, ?_, ?_⟩
  · have := Int.mul_le_mul_of_nonneg_right k1 (show 0 ≤ (red x).Den by omega)
    omega
  · rcases Int.lt_or_le (red x).Num 0 with h | h
    · have := Int.mul_le_mul_of_nonneg_right k1 (show 0 ≤ -(red x).Num by omega)
      rw [Int.mul_neg, Int.mul_neg] at this
      omega
    · omega
  · rcases Int.lt_or_le (red x).Num 0 with h | h
    · omega
    · have := Int.mul_le_mul_of_nonneg_right k1 h
      omega
theorem gcd_abs (a b : Int) (hb : 0 ≤ b) : (Nat.gcd a.natAbs b.toNat : Nat) = Int.gcd a b := by
  unfold Int.gcd
  congr 1
  omega
theorem p_gcd {n : Nat} (hn : 100000000 ≤ n) {x : Frac} (h : FracOk x) (step : Int × Int → Option ((Int × Int) ⊕ Int)) (h0 : ∀ a, step (a, 0) = some (.inr a)) (hs : ∀ a b, b ≠ 0 → step (a, b) = some (.inl (b, a.tmod b))) :
    loopO n step (max x.Num (w64 (-x.Num)), x.Den) = some ((Int.gcd x.Num x.Den : Nat) : Int) := by
  obtain ⟨⟨h1, h2⟩, h3, h4⟩ := h
  have e : max x.Num (w64 (-x.Num)) = (x.Num.natAbs : Int) := by rw [w64_id (by omega) (by omega)]; omega
  have e2 : x.Den = (x.Den.toNat : Int) := by omega
  rw [e]
  conv => lhs; arg 3; rw [e2]
  rw [loop_gcd h0 hs x.Den.toNat x.Num.natAbs n (by omega), gcd_abs _ _ (by omega)]
theorem red_w {x : Frac} (h : FracOk x) : w64 (x.Num.tdiv (Int.gcd x.Num x.Den : Nat)) = (red x).Num ∧ w64 (x.Den.tdiv (Int.gcd x.Num x.Den : Nat)) = (red x).Den ∧ nz ((Int.gcd x.Num x.Den : Nat) : Int) = some () := by
  obtain ⟨⟨h1, h2⟩, h3, h4⟩ := red_ok h
  obtain ⟨g, k1, k2, _⟩ := red_spec h.1.1
  refine ⟨w64_id (n := (red x).Num) (by omega) (by omega), w64_id (n := (red x).Den) (by omega) (by omega), ?_⟩
  unfold nz; rw [if_neg (by omega)]
theorem p_reduced {n : Nat} (hn : 100000000 ≤ n) {x : Frac} (h : FracOk x) : F_frames_reduced n x = some (red x) := by
  have := p_gcd hn h (F_frames_reduced_s1 n) (fun a => by simp [F_frames_reduced_s1]) (fun a b hb => by
    have hz : nz b = some () := by unfold nz; rw [if_neg hb]
    simp [F_frames_reduced_s1, hb, hz])
  obtain ⟨h1, h2, h3⟩ := red_w h
  simp only [F_frames_reduced, this, Option.bind_some, h1, h2, h3]
end Go.Proofs.Yteihdclpiekmaaa
