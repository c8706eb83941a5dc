/-
  A part of the proof of FiFiner: the texts FiPfa, FiPfb, FiPfc, FiPfd, FiPfe, FiPga, FiPgb, FiPgc, FiPgd, FiPge, FiPgf, FiPgg, EngZ.
-/
import Derived.Test.YteihdclpiekmaaaJFiFiner8
section
namespace Go.Proofs.Yteihdclpiekmaaa
open Go Go.RowKit Go.Dec
set_option linter.unusedVariables false
theorem or_br (c b : Bool) : (if c = true then some true else some b) = some (c || b) := by cases c <;> rfl
theorem and_br (c b : Bool) : (if c = true then some b else some false) = some (c && b) := by cases c <;> rfl
theorem lt_nat (i k : Nat) : decide ((i : Int) < (k : Int)) = decide (i < k) := by simp
def wi (n lo hi : Int) : Bool := decide (lo ≤ n) && decide (n ≤ hi)
theorem wi_t {n lo hi : Int} : wi n lo hi = true ↔ lo ≤ n ∧ n ≤ hi := by simp [wi]
theorem p_within (n : Nat) (a b c : Int) : F_frames_within n a b c = some (wi a b c) := rfl
def okSpan (s : Span) : Bool := wi s.Low 1 s.High && decide (s.High ≤ 2000) && decide (w64 (s.High - s.Low) ≤ 6)
def okShare (x : Frac) : Bool := wi x.Den 1 20 && wi x.Num 0 x.Den
def okSec (s : Section) : Bool := okSpan s.Arm && okSpan s.Stretch && wi s.Base 0 2000 && okShare s.Gear
def okF (f : Frame) : Bool := wi f.Sections.length 1 3 && f.Sections.all okSec && (wi f.Low 1 f.High && decide (f.High ≤ 2000) && decide (w64 (f.High - f.Low) ≤ 200)) && okShare f.Ease && wi f.Rod 0 4000 && wi f.Case 0 4000
structure SecOk (s : Section) : Prop where
  a : 1 ≤ s.Arm.Low ∧ s.Arm.Low ≤ s.Arm.High ∧ s.Arm.High ≤ 2000 ∧ s.Arm.High - s.Arm.Low ≤ 6
  b : 1 ≤ s.Stretch.Low ∧ s.Stretch.Low ≤ s.Stretch.High ∧ s.Stretch.High ≤ 2000 ∧ s.Stretch.High - s.Stretch.Low ≤ 6
  c : 0 ≤ s.Base ∧ s.Base ≤ 2000
  d : 1 ≤ s.Gear.Den ∧ s.Gear.Den ≤ 20 ∧ 0 ≤ s.Gear.Num ∧ s.Gear.Num ≤ s.Gear.Den
structure FOk (f : Frame) : Prop where
  n : 1 ≤ f.Sections.length ∧ f.Sections.length ≤ 3
  s : ∀ s ∈ f.Sections, SecOk s
  r : 1 ≤ f.Low ∧ f.Low ≤ f.High ∧ f.High ≤ 2000 ∧ f.High - f.Low ≤ 200
  e : 1 ≤ f.Ease.Den ∧ f.Ease.Den ≤ 20 ∧ 0 ≤ f.Ease.Num ∧ f.Ease.Num ≤ f.Ease.Den
  rod : 0 ≤ f.Rod ∧ f.Rod ≤ 4000
  case : 0 ≤ f.Case ∧ f.Case ≤ 4000
theorem okSpan_iff {s : Span} : okSpan s = true ↔ 1 ≤ s.Low ∧ s.Low ≤ s.High ∧ s.High ≤ 2000 ∧ s.High - s.Low ≤ 6 := by
  simp only [okSpan, Bool.and_eq_true, wi_t, decide_eq_true_eq]
  constructor
  · rintro ⟨⟨⟨h1, h2⟩, h3⟩, h4⟩
    rw [w64_id (by omega) (by omega)] at h4
    exact ⟨h1, h2, h3, h4⟩
  · rintro ⟨h1, h2, h3, h4⟩
    refine ⟨⟨⟨h1, h2⟩, h3⟩, ?_⟩
    rw [w64_id (by omega) (by omega)]; exact h4
theorem okShare_iff {x : Frac} : okShare x = true ↔ 1 ≤ x.Den ∧ x.Den ≤ 20 ∧ 0 ≤ x.Num ∧ x.Num ≤ x.Den := by
  simp only [okShare, Bool.and_eq_true, wi_t]
  constructor
  · rintro ⟨⟨h1, h2⟩, h3, h4⟩; exact ⟨h1, h2, h3, h4⟩
  · rintro ⟨h1, h2, h3, h4⟩; exact ⟨⟨h1, h2⟩, h3, h4⟩
theorem okSec_iff {s : Section} : okSec s = true ↔ SecOk s := by
  simp only [okSec, Bool.and_eq_true, okSpan_iff, okShare_iff, wi_t]
  constructor
  · rintro ⟨⟨⟨h1, h2⟩, h3⟩, h4⟩; exact ⟨h1, h2, h3, h4⟩
  · rintro ⟨h1, h2, h3, h4⟩; exact ⟨⟨⟨h1, h2⟩, h3⟩, h4⟩
theorem okF_iff {f : Frame} : okF f = true ↔ FOk f := by
  simp only [okF, Bool.and_eq_true, okShare_iff, wi_t, List.all_eq_true, okSec_iff, decide_eq_true_eq]
  constructor
  · rintro ⟨⟨⟨⟨⟨h1, h2⟩, ⟨h3, h4⟩, h5⟩, h6⟩, h7⟩, h8⟩
    rw [w64_id (by omega) (by omega)] at h5
    exact ⟨by omega, h2, by omega, h6, h7, h8⟩
  · rintro ⟨h1, h2, h3, h4, h5, h6⟩
    refine ⟨⟨⟨⟨⟨by omega, h2⟩, ⟨by omega, by omega⟩, ?_⟩, h4⟩, h5⟩, h6⟩
    rw [w64_id (by omega) (by omega)]; omega
section
variable {n : Nat} (hn : 100000000 ≤ n)
include hn
theorem p_ContainsSec (s : List Section) (f : Section → Option Bool) (p : Section → Bool) (hf : ∀ x, x ∈ s → f x = some (p x)) (hs : s.length ≤ 1000) : F_slices_ContainsFunc___api_Section_api_Section_ n s f = some (s.any p) := by
  have : ∃ k, F_slices_IndexFunc___api_Section_api_Section_ n s f = some k ∧ decide (0 ≤ k) = s.any p := by
    by_cases h : s.any p = true
    · have : ∃ i : Nat, ∃ x, s[i]? = some x ∧ p x = true ∧ ∀ (j : Nat) y, j < i → s[j]? = some y → p y = false := first_of h
      obtain ⟨i, x, h1, h2, h3⟩ := this
      have hil := (List.getElem?_eq_some_iff.1 h1).1
      refine ⟨i, ?_, by rw [h]; simp⟩
      have := loop_run (step := F_slices_IndexFunc___api_Section_api_Section__s1 n s f) (fun j => (j : Int)) (r := .inl (i : Int)) i 0 n (fun j _ hj => ?_) ?_ (by omega)
      · unfold F_slices_IndexFunc___api_Section_api_Section_
        simp only [Int.natCast_zero] at this
        rw [this]; rfl
      · have hj' : j < s.length := by omega
        have e : s[j]? = some s[j] := List.getElem?_eq_getElem hj'
        simp only [F_slices_IndexFunc___api_Section_api_Section__s1, geti_nat, e, Option.bind_some, hf _ (List.getElem_mem hj'), h3 j _ (by omega) e, lt_nat, hj', decide_true, if_true, Bool.false_eq_true, if_false, w64_nat (show j ≤ 4611686018427387904 by omega)]
      · simp only [Nat.zero_add, F_slices_IndexFunc___api_Section_api_Section__s1, geti_nat, h1, Option.bind_some, hf _ (List.mem_of_getElem? h1), h2, lt_nat, hil, decide_true, if_true]
    · have hno : ∀ x ∈ s, p x = false := fun x hx => by
        cases hp : p x with
        | false => rfl
        | true => exact absurd (List.any_eq_true.2 ⟨x, hx, hp⟩) h
      refine ⟨-1, ?_, by simp only [Bool.not_eq_true] at h; rw [h]; rfl⟩
      have := loop_all_l (step := F_slices_IndexFunc___api_Section_api_Section__s1 n s f) s (fun _ => true) (0 : Int) (n := n) (by omega) (fun i x hx hi => ?_) ?_ (by omega)
      · unfold F_slices_IndexFunc___api_Section_api_Section_; rw [this, show (s.all fun _ => true) = true by simp]; rfl
      · simp only [F_slices_IndexFunc___api_Section_api_Section__s1, geti_nat, hx, Option.bind_some, hf _ (List.mem_of_getElem? hx), hno _ (List.mem_of_getElem? hx), lt_nat, hi, decide_true, if_true, cond_true, Bool.false_eq_true, if_false, w64_nat (show i ≤ 4611686018427387904 by omega)]
      · simp [F_slices_IndexFunc___api_Section_api_Section__s1]
  obtain ⟨k, h1, h2⟩ := this
  simp only [F_slices_ContainsFunc___api_Section_api_Section_, h1, Option.bind_some, h2]
theorem p_Check_1 (s : Section) : F_frames_Check_1 n s = some (!okSec s) := by
  have _hn := hn
  simp only [F_frames_Check_1, F_frames_isPart, F_frames_isShare, p_within, Option.bind_some, and_br, or_br]
  have e : (!(wi s.Arm.Low 1 s.Arm.High && decide (s.Arm.High ≤ 2000) && decide (w64 (s.Arm.High - s.Arm.Low) ≤ 6)) || !(wi s.Stretch.Low 1 s.Stretch.High && decide (s.Stretch.High ≤ 2000) && decide (w64 (s.Stretch.High - s.Stretch.Low) ≤ 6)) || !wi s.Base 0 2000 || !(wi s.Gear.Den 1 20 && wi s.Gear.Num 0 s.Gear.Den)) = !okSec s := by
    simp only [okSec, okSpan, okShare, Bool.not_and, Bool.or_assoc]
  rw [e]
theorem p_Check {f : Frame} (hl : f.Sections.length ≤ 1000) : F_frames_Check n f = some (if okF f = true then 0 else 10) := by
  simp only [F_frames_Check, F_frames_isShare, p_within, Option.bind_some, and_br, or_br, p_ContainsSec hn f.Sections (fun a => F_frames_Check_1 n a) (fun s => !okSec s) (fun s _ => p_Check_1 hn s) hl]
  have e0 : (f.Sections.any fun s => !okSec s) = !f.Sections.all okSec := by simp [List.any_eq_not_all_not]
  rw [e0]
  have e : (!wi f.Sections.length 1 3 || !f.Sections.all okSec || !(wi f.Low 1 f.High && decide (f.High ≤ 2000) && decide (w64 (f.High - f.Low) ≤ 200)) || !(wi f.Ease.Den 1 20 && wi f.Ease.Num 0 f.Ease.Den) || !wi f.Rod 0 4000 || !wi f.Case 0 4000) = !okF f := by
    simp only [okF, okShare, Bool.not_and, Bool.or_assoc]
  rw [e]
  cases okF f <;> rfl
end
def gearStep (r : Int) (s : Section) : Int := s.Base + (r * s.Gear.Num).tdiv s.Gear.Den
def dist (f : Frame) (i : Nat) (r : Int) : Int := ((f.Sections.take (i + 1)).drop 1).foldl gearStep r
theorem gear_in {s : Section} (hs : SecOk s) {r A : Int} (h0 : 0 ≤ r) (hA : r ≤ A) : 0 ≤ gearStep r s ∧ gearStep r s ≤ 2000 + A ∧ 0 ≤ r * s.Gear.Num ∧ r * s.Gear.Num ≤ A * 20 ∧ 0 ≤ (r * s.Gear.Num).tdiv s.Gear.Den ∧ (r * s.Gear.Num).tdiv s.Gear.Den ≤ A := by
  obtain ⟨_, _, hc, hd⟩ := hs
  have h1 := mul_in h0 hA hd.2.2.1 (show s.Gear.Num ≤ 20 by omega)
  have h2 : r * s.Gear.Num ≤ r * s.Gear.Den := Int.mul_le_mul_of_nonneg_left hd.2.2.2 h0
  have h3 : (r * s.Gear.Num).tdiv s.Gear.Den = r * s.Gear.Num / s.Gear.Den := Int.tdiv_eq_ediv_of_nonneg h1.1
  have h4 : 0 ≤ r * s.Gear.Num / s.Gear.Den := Int.ediv_nonneg h1.1 (by omega)
  have h5 : r * s.Gear.Num / s.Gear.Den ≤ r := Int.ediv_le_of_le_mul (by omega) h2
  rw [h3]
  unfold gearStep
  rw [h3]
  refine ⟨by omega, by omega, h1.1, h1.2, h4, by omega⟩
theorem fold_in : ∀ (l : List Section) (r A : Int), (∀ s ∈ l, SecOk s) → 0 ≤ r → r ≤ A → 0 ≤ l.foldl gearStep r ∧ l.foldl gearStep r ≤ A + 2000 * l.length
  | [], r, A, _, h1, h2 => by simp; omega
  | s :: l, r, A, hs, h1, h2 => by
    obtain ⟨k1, k2, _⟩ := gear_in (hs s (List.mem_cons_self ..)) h1 h2
    have := fold_in l (gearStep r s) (2000 + A) (fun x hx => hs x (List.mem_cons_of_mem _ hx)) k1 k2
    simp only [List.foldl_cons, List.length_cons]
    omega
theorem dist_in {f : Frame} (hf : FOk f) {r : Int} (hr : 0 ≤ r ∧ r ≤ 2000) (i : Nat) : 0 ≤ dist f i r ∧ dist f i r ≤ 6000 := by
  have h := fold_in ((f.Sections.take (i + 1)).drop 1) r 2000 (fun s hs => hf.s s (List.mem_of_mem_take (List.mem_of_mem_drop hs))) hr.1 hr.2
  have hl : ((f.Sections.take (i + 1)).drop 1).length ≤ 2 := by
    have := hf.n
    simp only [List.length_drop, List.length_take]
    omega
  unfold dist
  omega
section
variable {n : Nat} (hn : 100000000 ≤ n)
include hn
theorem p_distance {f : Frame} (hf : FOk f) {i : Nat} (hi : i < f.Sections.length) {r : Int} (hr : 0 ≤ r ∧ r ≤ 2000) : F_frames_distance n f i r = some (dist f i r) := by
  have hl := hf.n
  have e1 : w64 ((i : Int) + 1) = ((i + 1 : Nat) : Int) := w64_nat (by omega)
  have e2 : slc f.Sections 1 (((i + 1 : Nat) : Int)) = some ((f.Sections.take (i + 1)).drop 1) := by
    unfold slc
    rw [if_pos (by omega)]
    simp
  simp only [F_frames_distance, e1, e2, Option.bind_some]
  have hlen : ((f.Sections.take (i + 1)).drop 1).length ≤ 2 := by simp; omega
  have := loop_fold (step := F_frames_distance_s1 n ((f.Sections.take (i + 1)).drop 1)) ((f.Sections.take (i + 1)).drop 1) (fun j r => (r, (j : Int))) gearStep (fun r => r) (fun j r => 0 ≤ r ∧ r ≤ 2000 + 2000 * j) (n := n) r (by omega) (fun j s b hj hb => by
    have hjl := (List.getElem?_eq_some_iff.1 hj).1
    have hs := hf.s s (List.mem_of_mem_take (List.mem_of_mem_drop (List.mem_of_getElem? hj)))
    obtain ⟨k1, k2, k3, k4, k5, k6⟩ := gear_in hs hb.1 hb.2
    refine ⟨?_, k1, by omega⟩
    have hd := hs.d
    have hc := hs.c
    have hnz : nz s.Gear.Den = some () := by unfold nz; rw [if_neg (by omega)]
    have hge : gearStep b s = s.Base + (b * s.Gear.Num).tdiv s.Gear.Den := rfl
    simp only [F_frames_distance_s1, geti_nat, hj, Option.bind_some, hnz, lt_nat, hjl, decide_true, if_true, w64_nat (show j ≤ 4611686018427387904 by omega)]
    rw [w64_id (n := b * s.Gear.Num) (by omega) (by omega), w64_id (n := (b * s.Gear.Num).tdiv s.Gear.Den) (by omega) (by omega), w64_id (by omega) (by omega), hge]) (fun b _ => by simp [F_frames_distance_s1]) (by omega)
  simp only [Int.natCast_zero] at this
  rw [this.1]
  rfl
end
def sidesL (s : Section) : List frames_sides := (span s.Arm.Low s.Arm.High).flatMap fun a => (span s.Stretch.Low s.Stretch.High).map fun b => ⟨a, b⟩
theorem sides_mem {s : Section} {x : frames_sides} : x ∈ sidesL s ↔ (s.Arm.Low ≤ x.arm ∧ x.arm ≤ s.Arm.High) ∧ (s.Stretch.Low ≤ x.stretch ∧ x.stretch ≤ s.Stretch.High) := by
  simp only [sidesL, List.mem_flatMap, List.mem_map, span_mem']
  constructor
  · rintro ⟨a, ha, b, hb, rfl⟩; exact ⟨ha, hb⟩
  · rintro ⟨ha, hb⟩; exact ⟨x.arm, ha, x.stretch, hb, rfl⟩
def cosF (d : Int) (x : frames_sides) : Frac := ⟨d * d + x.arm * x.arm - x.stretch * x.stretch, 2 * d * x.arm⟩
def ltF (x y : Frac) : Bool := decide (x.Num * y.Den < y.Num * x.Den)
structure XOk (x : frames_sides) : Prop where
  a : 1 ≤ x.arm ∧ x.arm ≤ 2000
  b : 1 ≤ x.stretch ∧ x.stretch ≤ 2000
theorem sides_ok {s : Section} (hs : SecOk s) {x : frames_sides} (h : x ∈ sidesL s) : XOk x := by
  have := sides_mem.1 h
  have := hs.a; have := hs.b
  exact ⟨by omega, by omega⟩
/-- a cosine's numbers stay small -/
def FracOk (x : Frac) : Prop := (1 ≤ x.Den ∧ x.Den ≤ 24000000) ∧ -40000000 ≤ x.Num ∧ x.Num ≤ 40000000
theorem cos_ok {d : Int} (hd : 1 ≤ d ∧ d ≤ 6000) {x : frames_sides} (hx : XOk x) : FracOk (cosF d x) ∧ (0 ≤ d * d ∧ d * d ≤ 36000000) ∧ (0 ≤ x.arm * x.arm ∧ x.arm * x.arm ≤ 4000000) ∧ (0 ≤ x.stretch * x.stretch ∧ x.stretch * x.stretch ≤ 4000000) := by
  have h1 := mul_in (show 0 ≤ d by omega) hd.2 (show 0 ≤ d by omega) hd.2
  have h2 := mul_in (show 0 ≤ x.arm by have := hx.a; omega) hx.a.2 (show 0 ≤ x.arm by have := hx.a; omega) hx.a.2
  have h3 := mul_in (show 0 ≤ x.stretch by have := hx.b; omega) hx.b.2 (show 0 ≤ x.stretch by have := hx.b; omega) hx.b.2
  have h4 := mul_in (show 0 ≤ 2 * d by omega) (show 2 * d ≤ 12000 by omega) (show 0 ≤ x.arm by have := hx.a; omega) hx.a.2
  have h5 : 1 * 1 ≤ 2 * d * x.arm := Int.mul_le_mul (by omega) hx.a.1 (by omega) (by omega)
  refine ⟨⟨⟨by simp only [cosF]; omega, by simp only [cosF]; omega⟩, by simp only [cosF]; omega, by simp only [cosF]; omega⟩, by omega, by omega, by omega⟩
theorem p_cosine (n : Nat) {d : Int} (hd : 1 ≤ d ∧ d ≤ 6000) {x : frames_sides} (hx : XOk x) : F_frames_sides_cosine n x d = some (cosF d x) := by
  obtain ⟨⟨⟨k1, k2⟩, k3, k4⟩, h1, h2, h3⟩ := cos_ok hd hx
  simp only [cosF] at k1 k2 k3 k4
  simp only [F_frames_sides_cosine, cosF]
  rw [w64_id (n := d * d) (by omega) (by omega), w64_id (n := x.arm * x.arm) (by omega) (by omega), w64_id (n := x.stretch * x.stretch) (by omega) (by omega), w64_id (n := 2 * d) (by omega) (by omega), w64_id (n := 2 * d * x.arm) (by omega) (by omega), w64_id (n := d * d + x.arm * x.arm) (by omega) (by omega), w64_id (by omega) (by omega)]
def cmpF (x y : Frac) : Int := if x.Num * y.Den < y.Num * x.Den then -1 else if y.Num * x.Den < x.Num * y.Den then 1 else 0
theorem p_compare (n : Nat) {x y : Frac} (h1 : -40000000 ≤ x.Num ∧ x.Num ≤ 40000000 ∧ 0 ≤ x.Den ∧ x.Den ≤ 24000000) (h2 : -40000000 ≤ y.Num ∧ y.Num ≤ 40000000 ∧ 0 ≤ y.Den ∧ y.Den ≤ 24000000) : F_frames_compare n x y = some (cmpF x y) := by
  have a := mul_abs h1.1 h1.2.1 h2.2.2.1 h2.2.2.2
  have b := mul_abs h2.1 h2.2.1 h1.2.2.1 h1.2.2.2
  simp only [F_frames_compare, F_cmp_Compare_int_, F_cmp_isNaN_int_, Option.bind_some, bne_self_eq_false, Bool.false_eq_true, if_false]
  rw [w64_id (n := x.Num * y.Den) (by omega) (by omega), w64_id (n := y.Num * x.Den) (by omega) (by omega)]
  unfold cmpF
  by_cases h : x.Num * y.Den < y.Num * x.Den
  · simp [h]
  · by_cases h' : y.Num * x.Den < x.Num * y.Den
    · simp [h, h']
    · simp [h, h']
theorem cmp_lt {x y : Frac} : (cmpF x y < 0) ↔ ltF x y = true := by
  unfold cmpF ltF
  split
  · simp [*]
  · split
    · simp [*]
    · simp [*]
theorem cmp_gt {x y : Frac} : (0 < cmpF x y) ↔ ltF y x = true := by
  unfold cmpF ltF
  split
  · rename_i h
    simp; omega
  · split
    · simp [*]
    · simp [*]
def red (x : Frac) : Frac := ⟨x.Num.tdiv (Int.gcd x.Num x.Den : Nat), x.Den.tdiv (Int.gcd x.Num x.Den : Nat)⟩
theorem red_spec {x : Frac} (h : 1 ≤ x.Den) : ∃ g : Int, 1 ≤ g ∧ g = (Int.gcd x.Num x.Den : Nat) ∧ x.Num = g * (red x).Num ∧ x.Den = g * (red x).Den ∧ 1 ≤ (red x).Den := by
  have hg : 0 < Int.gcd x.Num x.Den := Int.gcd_pos_of_ne_zero_right _ (by omega)
  obtain ⟨a, ha⟩ := Int.gcd_dvd_left x.Num x.Den
  obtain ⟨b, hb⟩ := Int.gcd_dvd_right x.Num x.Den
  have hne : ((Int.gcd x.Num x.Den : Nat) : Int) ≠ 0 := by omega
  have ea : (red x).Num = a := by
    show x.Num.tdiv _ = a
    conv => lhs; arg 1; rw [ha]
    exact Int.mul_tdiv_cancel_left _ hne
  have eb : (red x).Den = b := by
    show x.Den.tdiv _ = b
    conv => lhs; arg 1; rw [hb]
    exact Int.mul_tdiv_cancel_left _ hne
  refine ⟨(Int.gcd x.Num x.Den : Nat), by omega, rfl, by rw [ea]; exact ha, by rw [eb]; exact hb, ?_⟩
  rw [eb]
  rcases Int.lt_or_le 0 b with h' | h'
  · omega
  · exfalso
    have := Int.mul_le_mul_of_nonneg_left h' (show 0 ≤ ((Int.gcd x.Num x.Den : Nat) : Int) by omega)
    omega
theorem ltF_scale {g g' a b c d : Int} (h : 1 ≤ g) (h' : 1 ≤ g') : ltF ⟨g * a, g * b⟩ ⟨g' * c, g' * d⟩ = ltF ⟨a, b⟩ ⟨c, d⟩ := by
  unfold ltF
  have e1 : g * a * (g' * d) = g * g' * (a * d) := by simp [Int.mul_comm, Int.mul_left_comm]
  have e2 : g' * c * (g * b) = g * g' * (c * b) := by simp [Int.mul_comm, Int.mul_left_comm]
  have hp : 0 < g * g' := Int.mul_pos (by omega) (by omega)
  simp only [e1, e2, decide_eq_decide]
  exact ⟨fun k => Int.lt_of_mul_lt_mul_left k (by omega), fun k => Int.mul_lt_mul_of_pos_left k hp⟩
theorem ltF_red {x y : Frac} (hx : 1 ≤ x.Den) (hy : 1 ≤ y.Den) : ltF (red x) (red y) = ltF x y := by
  obtain ⟨g, h1, _, h2, h3, _⟩ := red_spec hx
  obtain ⟨g', k1, _, k2, k3, _⟩ := red_spec hy
  have := ltF_scale (a := (red x).Num) (b := (red x).Den) (c := (red y).Num) (d := (red y).Den) h1 k1
  rw [← h2, ← h3, ← k2, ← k3] at this
  exact this.symm
/-- reduced numbers are no greater -/
theorem red_ok {x : Frac} (h : FracOk x) : FracOk (red x) := by
  obtain ⟨⟨h1, h2⟩, h3, h4⟩ := h
  obtain ⟨g, k1, _, k2, k3, k4⟩ := red_spec h1
  refine ⟨⟨k4, ?_⟩, ?_, ?_⟩
  · have := Int.mul_le_mul_of_nonneg_right k1 (show 0 ≤ (red x).Den by omega)
    omega
  · rcases Int.lt_or_le (red x).Num 0 with h | h
    · have := Int.mul_le_mul_of_nonneg_right k1 (show 0 ≤ -(red x).Num by omega)
      rw [Int.mul_neg, Int.mul_neg] at this
      omega
    · omega
  · rcases Int.lt_or_le (red x).Num 0 with h | h
    · omega
    · have := Int.mul_le_mul_of_nonneg_right k1 h
      omega
theorem gcd_abs (a b : Int) (hb : 0 ≤ b) : (Nat.gcd a.natAbs b.toNat : Nat) = Int.gcd a b := by
  unfold Int.gcd
  congr 1
  omega
theorem p_gcd {n : Nat} (hn : 100000000 ≤ n) {x : Frac} (h : FracOk x) (step : Int × Int → Option ((Int × Int) ⊕ Int)) (h0 : ∀ a, step (a, 0) = some (.inr a)) (hs : ∀ a b, b ≠ 0 → step (a, b) = some (.inl (b, a.tmod b))) :
    loopO n step (max x.Num (w64 (-x.Num)), x.Den) = some ((Int.gcd x.Num x.Den : Nat) : Int) := by
  obtain ⟨⟨h1, h2⟩, h3, h4⟩ := h
  have e : max x.Num (w64 (-x.Num)) = (x.Num.natAbs : Int) := by rw [w64_id (by omega) (by omega)]; omega
  have e2 : x.Den = (x.Den.toNat : Int) := by omega
  rw [e]
  conv => lhs; arg 3; rw [e2]
  rw [loop_gcd h0 hs x.Den.toNat x.Num.natAbs n (by omega), gcd_abs _ _ (by omega)]
theorem red_w {x : Frac} (h : FracOk x) : w64 (x.Num.tdiv (Int.gcd x.Num x.Den : Nat)) = (red x).Num ∧ w64 (x.Den.tdiv (Int.gcd x.Num x.Den : Nat)) = (red x).Den ∧ nz ((Int.gcd x.Num x.Den : Nat) : Int) = some () := by
  obtain ⟨⟨h1, h2⟩, h3, h4⟩ := red_ok h
  obtain ⟨g, k1, k2, _⟩ := red_spec h.1.1
  refine ⟨w64_id (n := (red x).Num) (by omega) (by omega), w64_id (n := (red x).Den) (by omega) (by omega), ?_⟩
  unfold nz; rw [if_neg (by omega)]
theorem p_reduced {n : Nat} (hn : 100000000 ≤ n) {x : Frac} (h : FracOk x) : F_frames_reduced n x = some (red x) := by
  have := p_gcd hn h (F_frames_reduced_s1 n) (fun a => by simp [F_frames_reduced_s1]) (fun a b hb => by
    have hz : nz b = some () := by unfold nz; rw [if_neg hb]
    simp [F_frames_reduced_s1, hb, hz])
  obtain ⟨h1, h2, h3⟩ := red_w h
  simp only [F_frames_reduced, this, Option.bind_some, h1, h2, h3]
end Go.Proofs.Yteihdclpiekmaaa
end
section
namespace Go.Proofs.Yteihdclpiekmaaa
open Go Go.RowKit Go.Dec
set_option linter.unusedVariables false
def knownI (so all : Nat) : Int := if (so : Int) == (all : Int) then 1 else if (so : Int) == 0 then 2 else 3
def K (s : Section) (p : frames_sides → Bool) : Int := knownI ((sidesL s).countP p) (sidesL s).length
def secAt (f : Frame) (i : Nat) : Section := (f.Sections[i]?).getD ⟨⟨0, 0⟩, ⟨0, 0⟩, 0, ⟨0, 0⟩⟩
def askT (f : Frame) (sec r : Int) : Int := if okF f = true then (if (wi sec 0 ((f.Sections.length : Int) - 1) && wi r f.Low f.High) = true then 0 else 1) else 10
def lowF (d : Int) : List frames_sides → Frac
  | [] => ⟨0, 0⟩
  | a :: l => l.foldl (fun m x => if ltF (cosF d x) m = true then cosF d x else m) (cosF d a)
def highF (d : Int) : List frames_sides → Frac
  | [] => ⟨0, 0⟩
  | a :: l => l.foldl (fun m x => if ltF m (cosF d x) = true then cosF d x else m) (cosF d a)
def cosineT (f : Frame) (sec r : Int) : Frac × Frac × Int :=
  if askT f sec r = 0 then (if dist f sec.toNat r = 0 then (⟨0, 0⟩, ⟨0, 0⟩, 3) else (red (lowF (dist f sec.toNat r) (sidesL (secAt f sec.toNat))), red (highF (dist f sec.toNat r) (sidesL (secAt f sec.toNat))), 0)) else (⟨0, 0⟩, ⟨0, 0⟩, askT f sec r)
theorem secAt_get {f : Frame} {i : Nat} (h : i < f.Sections.length) : f.Sections[i]? = some (secAt f i) := by simp [secAt, h]
theorem secAt_mem {f : Frame} {i : Nat} (h : i < f.Sections.length) : secAt f i ∈ f.Sections := List.mem_of_getElem? (secAt_get h)
theorem askT_ok {f : Frame} {sec r : Int} (h : askT f sec r = 0) : FOk f ∧ (sec = (sec.toNat : Int) ∧ sec.toNat < f.Sections.length) ∧ f.Low ≤ r ∧ r ≤ f.High := by
  unfold askT at h
  by_cases ho : okF f = true
  · rw [if_pos ho] at h
    by_cases hc : (wi sec 0 ((f.Sections.length : Int) - 1) && wi r f.Low f.High) = true
    · simp only [Bool.and_eq_true, wi_t] at hc
      exact ⟨okF_iff.1 ho, ⟨by omega, by omega⟩, hc.2⟩
    · rw [if_neg hc] at h; cases h
  · rw [if_neg ho] at h; cases h
theorem low_ok {d : Int} (hd : 1 ≤ d ∧ d ≤ 6000) : ∀ (l : List frames_sides), (∀ x ∈ l, XOk x) → l ≠ [] → FracOk (lowF d l) ∧ FracOk (highF d l)
  | [], _, h => absurd rfl h
  | a :: l, hx, _ => by
    have ha := (cos_ok hd (hx a (List.mem_cons_self ..))).1
    have key : ∀ (l : List frames_sides) (m m' : Frac), (∀ x ∈ l, XOk x) → FracOk m → FracOk m' → FracOk (l.foldl (fun m x => if ltF (cosF d x) m = true then cosF d x else m) m) ∧ FracOk (l.foldl (fun m x => if ltF m (cosF d x) = true then cosF d x else m) m') := by
      intro l
      induction l with
      | nil => intro m m' _ h1 h2; exact ⟨h1, h2⟩
      | cons b l ih =>
        intro m m' hx h1 h2
        have hb := (cos_ok hd (hx b (List.mem_cons_self ..))).1
        simp only [List.foldl_cons]
        exact ih _ _ (fun x h => hx x (List.mem_cons_of_mem _ h)) (by split <;> assumption) (by split <;> assumption)
    exact key l _ _ (fun x h => hx x (List.mem_cons_of_mem _ h)) ha ha
theorem sides_ne {s : Section} (hs : SecOk s) : sidesL s ≠ [] := fun e => by
  have := hs.a; have := hs.b
  have : (⟨s.Arm.Low, s.Stretch.Low⟩ : frames_sides) ∈ sidesL s := sides_mem.2 ⟨by simp only; omega, by simp only; omega⟩
  rw [e] at this; cases this
section
variable {n : Nat} (hn : 100000000 ≤ n)
include hn
theorem p_truths {s : Section} (hs : SecOk s) {σ ρ : Type} (cs : σ → frames_sides → Option (σ ⊕ ρ)) (st : σ) : I_frames_truths_1 n s cs st = foldO cs st (sidesL s) := by
  have ha := hs.a; have hb := hs.b
  have inner : ∀ (a : Int) (st : σ), loopO n (I_frames_truths_1_s2 s a cs) (s.Stretch.Low, st) = foldO cs st ((span s.Stretch.Low s.Stretch.High).map fun b => (⟨a, b⟩ : frames_sides)) := fun a st => by
    rw [foldO_map]
    refine loop_up (fun st b => cs st ⟨a, b⟩) _ _ _ _ rfl (fun b st h1 h2 => ?_) (fun b st h1 h2 => ?_) (by omega)
    · simp only [I_frames_truths_1_s2]
      rw [if_pos (by simpa using h2), w64_id (by omega) (by omega)]
      rfl
    · simp only [I_frames_truths_1_s2]
      rw [if_neg (by simp; omega)]
  unfold I_frames_truths_1
  rw [show sidesL s = (span s.Arm.Low s.Arm.High).flatMap fun a => (span s.Stretch.Low s.Stretch.High).map fun b => (⟨a, b⟩ : frames_sides) from rfl, foldO_flatMap]
  refine loop_up (fun st a => foldO cs st ((span s.Stretch.Low s.Stretch.High).map fun b => (⟨a, b⟩ : frames_sides))) _ _ _ _ rfl (fun b st h1 h2 => ?_) (fun b st h1 h2 => ?_) (by omega)
  · simp only [I_frames_truths_1_s1]
    rw [if_pos (by simpa using h2), inner, w64_id (by omega) (by omega)]
    rfl
  · simp only [I_frames_truths_1_s1]
    rw [if_neg (by simp; omega)]
theorem p_ask {f : Frame} (hl : f.Sections.length ≤ 1000) (sec r : Int) : F_frames_ask n f sec r = some (askT f sec r) := by
  simp only [F_frames_ask, p_Check hn hl, p_within, Option.bind_some, or_br, askT]
  by_cases ho : okF f = true
  · simp only [ho, if_true]
    rw [w64_id (by omega) (by omega)]
    cases wi sec 0 ((f.Sections.length : Int) - 1) <;> cases wi r f.Low f.High <;> rfl
  · simp [ho]
theorem p_Cosine {f : Frame} (hl : f.Sections.length ≤ 1000) (sec r : Int) : F_frames_Cosine n f sec r = some (cosineT f sec r) := by
  simp only [F_frames_Cosine, p_ask hn hl, Option.bind_some, cosineT]
  by_cases h : askT f sec r = 0
  · obtain ⟨h1, ⟨h2, h3⟩, h4⟩ := askT_ok h
    have hr := h1.r
    have hs := h1.s _ (secAt_mem h3)
    have e := p_distance hn h1 h3 (r := r) (by omega)
    rw [← h2] at e
    have hd := dist_in h1 (r := r) (by omega) sec.toNat
    have e2 : geti f.Sections sec = some (secAt f sec.toNat) := by
      have := secAt_get h3
      rw [← geti_nat, ← h2] at this
      exact this
    simp only [h, bne_self_eq_false, Bool.false_eq_true, if_false, if_true, e, Option.bind_some]
    by_cases h0 : dist f sec.toNat r = 0
    · simp [h0]
    · have h0' : (dist f sec.toNat r == 0) = false := by simpa using h0
      simp only [h0', Bool.false_eq_true, if_false, h0, e2, Option.bind_some, F_frames_truths, p_truths hn hs]
      generalize dist f sec.toNat r = d at *
      have hd' : 1 ≤ d ∧ d ≤ 6000 := by omega
      have hx : ∀ x ∈ sidesL (secAt f sec.toNat), XOk x := fun x hx => sides_ok hs hx
      have hne := sides_ne hs
      generalize sidesL (secAt f sec.toNat) = l at *
      cases l with
      | nil => exact absurd rfl hne
      | cons a tl =>
        obtain ⟨⟨⟨c1, c2⟩, c3, c4⟩, _⟩ := cos_ok hd' (hx a (List.mem_cons_self ..))
        have s0 : F_frames_Cosine_s1 n d (0, 0, 0, 0) a = some (.inl ((cosF d a).Num, (cosF d a).Den, (cosF d a).Num, (cosF d a).Den)) := by
          simp [F_frames_Cosine_s1, p_cosine n hd' (hx a (List.mem_cons_self ..))]
        obtain ⟨k1, k2⟩ := foldO_foldl (ρ := Unit) (cs := F_frames_Cosine_s1 n d) (fun (z : Int × Int × Int × Int) x => ((if ltF ⟨z.1, z.2.1⟩ (cosF d x) = true then (cosF d x).Num else z.1), (if ltF ⟨z.1, z.2.1⟩ (cosF d x) = true then (cosF d x).Den else z.2.1), (if ltF (cosF d x) ⟨z.2.2.1, z.2.2.2⟩ = true then (cosF d x).Num else z.2.2.1), (if ltF (cosF d x) ⟨z.2.2.1, z.2.2.2⟩ = true then (cosF d x).Den else z.2.2.2))) (fun i z => FracOk ⟨z.1, z.2.1⟩ ∧ FracOk ⟨z.2.2.1, z.2.2.2⟩) tl 0 ((cosF d a).Num, (cosF d a).Den, (cosF d a).Num, (cosF d a).Den) ⟨⟨⟨c1, c2⟩, c3, c4⟩, ⟨⟨c1, c2⟩, c3, c4⟩⟩ (fun i z x _ hxm hz => by
          have hxo := hx x (List.mem_cons_of_mem _ hxm)
          obtain ⟨⟨b1, b2⟩, b3, b4⟩ := (cos_ok hd' hxo).1
          obtain ⟨z1, z2, z3, z4⟩ := z
          obtain ⟨⟨⟨q1, q2⟩, q3, q4⟩, ⟨w1, w2⟩, w3, w4⟩ := hz
          simp only at q1 q2 q3 q4 w1 w2 w3 w4
          refine ⟨?_, ?_⟩
          · have n2 : (z2 == 0) = false := by simp; omega
            have n4 : (z4 == 0) = false := by simp; omega
            have e5 : decide (cmpF (cosF d x) ⟨z3, z4⟩ < 0) = ltF (cosF d x) ⟨z3, z4⟩ := by
              rw [Bool.eq_iff_iff]; simp only [decide_eq_true_eq, cmp_lt]
            have e6 : decide (0 < cmpF (cosF d x) ⟨z1, z2⟩) = ltF ⟨z1, z2⟩ (cosF d x) := by
              rw [Bool.eq_iff_iff]; simp only [decide_eq_true_eq, cmp_gt]
            simp only [F_frames_Cosine_s1, p_cosine n hd' hxo, Option.bind_some, n2, n4, Bool.false_eq_true, if_false, p_compare n ⟨b3, b4, by omega, b2⟩ (show -40000000 ≤ (Frac.mk z3 z4).Num ∧ (Frac.mk z3 z4).Num ≤ 40000000 ∧ 0 ≤ (Frac.mk z3 z4).Den ∧ (Frac.mk z3 z4).Den ≤ 24000000 by simp only; omega), p_compare n ⟨b3, b4, by omega, b2⟩ (show -40000000 ≤ (Frac.mk z1 z2).Num ∧ (Frac.mk z1 z2).Num ≤ 40000000 ∧ 0 ≤ (Frac.mk z1 z2).Den ∧ (Frac.mk z1 z2).Den ≤ 24000000 by simp only; omega), e5, e6]
            cases ltF (cosF d x) ⟨z3, z4⟩ <;> cases ltF ⟨z1, z2⟩ (cosF d x) <;> rfl
          · constructor
            · simp only
              cases ltF ⟨z1, z2⟩ (cosF d x)
              · exact ⟨⟨q1, q2⟩, q3, q4⟩
              · exact ⟨⟨b1, b2⟩, b3, b4⟩
            · simp only
              cases ltF (cosF d x) ⟨z3, z4⟩
              · exact ⟨⟨w1, w2⟩, w3, w4⟩
              · exact ⟨⟨b1, b2⟩, b3, b4⟩)
        have key : ∀ (tl : List frames_sides) (h l : Frac), tl.foldl (fun (z : Int × Int × Int × Int) x => ((if ltF ⟨z.1, z.2.1⟩ (cosF d x) = true then (cosF d x).Num else z.1), (if ltF ⟨z.1, z.2.1⟩ (cosF d x) = true then (cosF d x).Den else z.2.1), (if ltF (cosF d x) ⟨z.2.2.1, z.2.2.2⟩ = true then (cosF d x).Num else z.2.2.1), (if ltF (cosF d x) ⟨z.2.2.1, z.2.2.2⟩ = true then (cosF d x).Den else z.2.2.2))) (h.Num, h.Den, l.Num, l.Den) =
            ((tl.foldl (fun m x => if ltF m (cosF d x) = true then cosF d x else m) h).Num, (tl.foldl (fun m x => if ltF m (cosF d x) = true then cosF d x else m) h).Den, (tl.foldl (fun m x => if ltF (cosF d x) m = true then cosF d x else m) l).Num, (tl.foldl (fun m x => if ltF (cosF d x) m = true then cosF d x else m) l).Den) := by
          intro tl
          induction tl with
          | nil => intro h l; rfl
          | cons b tl ih =>
            intro h l
            simp only [List.foldl_cons]
            rw [← ih]
            congr 1
            cases ltF h (cosF d b) <;> cases ltF (cosF d b) l <;> rfl
        rw [foldO, s0]
        simp only [Option.bind_some]
        rw [k1, key]
        have hlo := low_ok hd' (a :: tl) hx (by simp)
        have e7 : tl.foldl (fun m x => if ltF m (cosF d x) = true then cosF d x else m) (cosF d a) = highF d (a :: tl) := rfl
        have e8 : tl.foldl (fun m x => if ltF (cosF d x) m = true then cosF d x else m) (cosF d a) = lowF d (a :: tl) := rfl
        rw [e7, e8]
        simp only [Option.bind_some, p_reduced hn hlo.1, p_reduced hn hlo.2]
  · simp [h]
end
end Go.Proofs.Yteihdclpiekmaaa
end
section
namespace Go.Proofs.Yteihdclpiekmaaa
open Go Go.RowKit Go.Dec
set_option linter.unusedVariables false
theorem p_Less (n : Nat) {x y : Frac} (h1 : -40000000 ≤ x.Num ∧ x.Num ≤ 40000000 ∧ 0 ≤ x.Den ∧ x.Den ≤ 24000000) (h2 : -40000000 ≤ y.Num ∧ y.Num ≤ 40000000 ∧ 0 ≤ y.Den ∧ y.Den ≤ 24000000) : F_ref01_Less n x y = some (ltF x y) := by
  have a := mul_abs h1.1 h1.2.1 h2.2.2.1 h2.2.2.2
  have b := mul_abs h2.1 h2.2.1 h1.2.2.1 h1.2.2.2
  simp only [F_ref01_Less, ltF]
  rw [w64_id (n := x.Num * y.Den) (by omega) (by omega), w64_id (n := y.Num * x.Den) (by omega) (by omega)]
theorem p_within01 (n : Nat) (a b c : Int) : F_ref01_Within n a b c = some (wi a b c) := rfl
theorem frac_b {x : Frac} (h : FracOk x) : -40000000 ≤ x.Num ∧ x.Num ≤ 40000000 ∧ 0 ≤ x.Den ∧ x.Den ≤ 24000000 := ⟨h.2.1, h.2.2, by have := h.1.1; omega, h.1.2⟩
section
variable {n : Nat} (hn : 100000000 ≤ n)
include hn
theorem p_Check01 {f : Frame} (hl : f.Sections.length ≤ 1000) : F_ref01_Check n f = some (if okF f = true then 0 else 10) := by
  have h1 := loop_all_l (step := F_ref01_Check_s1 n f) f.Sections okSec (10 : Int) (n := n) (by omega) (fun i x hx hi => by
    simp only [F_ref01_Check_s1, F_ref01_isLong, F_ref01_isShare, geti_nat, hx, Option.bind_some, p_within01, and_br, or_br, lt_nat, hi, decide_true, if_true, w64_nat (show i ≤ 4611686018427387904 by omega)]
    have e : (!(wi x.Arm.Low 1 x.Arm.High && decide (x.Arm.High ≤ 2000) && decide (w64 (x.Arm.High - x.Arm.Low) ≤ 6)) || !(wi x.Stretch.Low 1 x.Stretch.High && decide (x.Stretch.High ≤ 2000) && decide (w64 (x.Stretch.High - x.Stretch.Low) ≤ 6)) || !wi x.Base 0 2000 || !(wi x.Gear.Den 1 20 && wi x.Gear.Num 0 x.Gear.Den)) = !okSec x := by
      simp only [okSec, okSpan, okShare, Bool.not_and, Bool.or_assoc]
    rw [e]
    cases okSec x <;> rfl) (by simp [F_ref01_Check_s1]) (by omega)
  simp only [F_ref01_Check, h1, Option.bind_some]
  cases ha : f.Sections.all okSec with
  | false =>
    have : okF f = false := by simp [okF, ha]
    rw [this]; rfl
  | true =>
    simp only [cond_true, F_ref01_isShare, p_within01, Option.bind_some, and_br, or_br]
    have e : (!wi f.Sections.length 1 3 || !wi f.Low 1 f.High || decide (2000 < f.High) || decide (200 < w64 (f.High - f.Low)) || !(wi f.Ease.Den 1 20 && wi f.Ease.Num 0 f.Ease.Den) || !wi f.Rod 0 4000 || !wi f.Case 0 4000) = !okF f := by
      simp only [okF, okShare, ha, Bool.not_and, Bool.or_assoc, Bool.not_true, Bool.false_or, ← decide_not, Int.not_le]
    rw [e]
    cases okF f <;> rfl
end
end Go.Proofs.Yteihdclpiekmaaa
end
section
namespace Go.Proofs.Yteihdclpiekmaaa
open Go Go.RowKit Go.Dec
set_option linter.unusedVariables false
section
variable {n : Nat} (hn : 100000000 ≤ n)
include hn
theorem p_Copy01 {f : Frame} (hl : f.Sections.length ≤ 1000) : F_ref01_Copy n f = some f := by
  have _hn := hn
  simp only [F_ref01_Copy, List.nil_append]
  rw [lim_ok (by omega)]
  rfl
end
end Go.Proofs.Yteihdclpiekmaaa
end
section
namespace Go.Proofs.Yteihdclpiekmaaa
open Go Go.RowKit Go.Dec
set_option linter.unusedVariables false
/-- x ≥ y, y ≥ z: x ≥ z -/
theorem ltF_trans {x y z : Frac} (hx : 1 ≤ x.Den) (hy : 1 ≤ y.Den) (hz : 1 ≤ z.Den) (h1 : ltF x y = false) (h2 : ltF y z = false) : ltF x z = false := by
  simp only [ltF, decide_eq_false_iff_not, Int.not_lt] at *
  have a := Int.mul_le_mul_of_nonneg_right h1 (show 0 ≤ z.Den by omega)
  have b := Int.mul_le_mul_of_nonneg_right h2 (show 0 ≤ x.Den by omega)
  have e1 : y.Num * x.Den * z.Den = y.Num * z.Den * x.Den := by rw [Int.mul_assoc, Int.mul_comm x.Den, ← Int.mul_assoc]
  have e2 : z.Num * y.Den * x.Den = z.Num * x.Den * y.Den := by rw [Int.mul_assoc, Int.mul_comm y.Den, ← Int.mul_assoc]
  have e3 : x.Num * y.Den * z.Den = x.Num * z.Den * y.Den := by rw [Int.mul_assoc, Int.mul_comm y.Den, ← Int.mul_assoc]
  rw [e1, e3] at a
  rw [e2] at b
  exact Int.le_of_mul_le_mul_right (Int.le_trans b a) (by omega)
theorem ltF_irrefl (x : Frac) : ltF x x = false := by simp [ltF]
theorem ltF_asymm {x y : Frac} (h : ltF x y = true) : ltF y x = false := by
  simp only [ltF, decide_eq_true_eq, decide_eq_false_iff_not] at *; omega
/-- the least and the greatest cosine -/
theorem low_spec {d : Int} (hd : 1 ≤ d ∧ d ≤ 6000) : ∀ (l : List frames_sides), (∀ x ∈ l, XOk x) → l ≠ [] →
    ((∃ x ∈ l, lowF d l = cosF d x) ∧ ∀ x ∈ l, ltF (cosF d x) (lowF d l) = false) ∧ ((∃ x ∈ l, highF d l = cosF d x) ∧ ∀ x ∈ l, ltF (highF d l) (cosF d x) = false)
  | [], _, h => absurd rfl h
  | a :: l, hx, _ => by
    have key : ∀ (l : List frames_sides) (m m' : frames_sides), (∀ x ∈ l, XOk x) → XOk m → XOk m' →
        ((∃ x ∈ m :: l, l.foldl (fun m x => if ltF (cosF d x) m = true then cosF d x else m) (cosF d m) = cosF d x) ∧ ∀ x ∈ m :: l, ltF (cosF d x) (l.foldl (fun m x => if ltF (cosF d x) m = true then cosF d x else m) (cosF d m)) = false) ∧
        ((∃ x ∈ m' :: l, l.foldl (fun m x => if ltF m (cosF d x) = true then cosF d x else m) (cosF d m') = cosF d x) ∧ ∀ x ∈ m' :: l, ltF (l.foldl (fun m x => if ltF m (cosF d x) = true then cosF d x else m) (cosF d m')) (cosF d x) = false) := by
      intro l
      induction l with
      | nil =>
        intro m m' _ _ _
        refine ⟨⟨⟨m, by simp, rfl⟩, fun x h => ?_⟩, ⟨⟨m', by simp, rfl⟩, fun x h => ?_⟩⟩
        · simp at h; subst h; exact ltF_irrefl _
        · simp at h; subst h; exact ltF_irrefl _
      | cons b l ih =>
        intro m m' hx hm hm'
        have hb := hx b (List.mem_cons_self ..)
        simp only [List.foldl_cons]
        have e1 : (if ltF (cosF d b) (cosF d m) = true then cosF d b else cosF d m) = cosF d (if ltF (cosF d b) (cosF d m) = true then b else m) := by split <;> rfl
        have e2 : (if ltF (cosF d m') (cosF d b) = true then cosF d b else cosF d m') = cosF d (if ltF (cosF d m') (cosF d b) = true then b else m') := by split <;> rfl
        rw [e1, e2]
        obtain ⟨⟨⟨x1, hx1, q1⟩, q2⟩, ⟨x2, hx2, q3⟩, q4⟩ := ih (if ltF (cosF d b) (cosF d m) = true then b else m) (if ltF (cosF d m') (cosF d b) = true then b else m') (fun x h => hx x (List.mem_cons_of_mem _ h)) (by split <;> assumption) (by split <;> assumption)
        have hall : ∀ x ∈ b :: l, XOk x := hx
        refine ⟨⟨⟨x1, ?_, q1⟩, fun x h => ?_⟩, ⟨⟨x2, ?_, q3⟩, fun x h => ?_⟩⟩
        · rcases List.mem_cons.1 hx1 with h | h
          · rw [h]; split <;> simp
          · simp [h]
        · have h0 := q2 _ (List.mem_cons_self ..)
          have hx1' : XOk x1 := by
            rcases List.mem_cons.1 hx1 with h | h
            · rw [h]; split <;> assumption
            · exact hx x1 (List.mem_cons_of_mem _ h)
          by_cases hl : x ∈ l
          · exact q2 x (List.mem_cons_of_mem _ hl)
          · have hxo : XOk x := by
              rcases List.mem_cons.1 h with rfl | h
              · exact hm
              · exact hx x h
            have hmid : XOk (if ltF (cosF d b) (cosF d m) = true then b else m) := by split <;> assumption
            have hstep : ltF (cosF d x) (cosF d (if ltF (cosF d b) (cosF d m) = true then b else m)) = false := by
              rcases List.mem_cons.1 h with rfl | h
              · split
                · rename_i hc; exact ltF_asymm hc
                · exact ltF_irrefl _
              · rcases List.mem_cons.1 h with rfl | h
                · split
                  · exact ltF_irrefl _
                  · rename_i hc; simpa using hc
                · exact absurd h hl
            rw [q1] at h0 ⊢
            exact ltF_trans (cos_ok hd hxo).1.1.1 (cos_ok hd hmid).1.1.1 (cos_ok hd hx1').1.1.1 hstep h0
        · rcases List.mem_cons.1 hx2 with h | h
          · rw [h]; split <;> simp
          · simp [h]
        · have h0 := q4 _ (List.mem_cons_self ..)
          have hx2' : XOk x2 := by
            rcases List.mem_cons.1 hx2 with h | h
            · rw [h]; split <;> assumption
            · exact hx x2 (List.mem_cons_of_mem _ h)
          by_cases hl : x ∈ l
          · exact q4 x (List.mem_cons_of_mem _ hl)
          · have hxo : XOk x := by
              rcases List.mem_cons.1 h with rfl | h
              · exact hm'
              · exact hx x h
            have hmid : XOk (if ltF (cosF d m') (cosF d b) = true then b else m') := by split <;> assumption
            have hstep : ltF (cosF d (if ltF (cosF d m') (cosF d b) = true then b else m')) (cosF d x) = false := by
              rcases List.mem_cons.1 h with rfl | h
              · split
                · rename_i hc; exact ltF_asymm hc
                · exact ltF_irrefl _
              · rcases List.mem_cons.1 h with rfl | h
                · split
                  · exact ltF_irrefl _
                  · rename_i hc; simpa using hc
                · exact absurd h hl
            rw [q3] at h0 ⊢
            exact ltF_trans (cos_ok hd hx2').1.1.1 (cos_ok hd hmid).1.1.1 (cos_ok hd hxo).1.1.1 h0 hstep
    exact key l a a (fun x h => hx x (List.mem_cons_of_mem _ h)) (hx a (List.mem_cons_self ..)) (hx a (List.mem_cons_self ..))
theorem ask_zero {f : Frame} (ho : okF f = true) {sec r : Int} (h : (wi sec 0 ((f.Sections.length : Int) - 1) && wi r f.Low f.High) = true) : askT f sec r = 0 := by
  unfold askT; rw [if_pos ho, if_pos h]
end Go.Proofs.Yteihdclpiekmaaa
end
section
namespace Go.Proofs.Yteihdclpiekmaaa
open Go Go.RowKit Go.Dec
set_option linter.unusedVariables false
theorem u16_wrap {x : Nat} (h2 : x < 65536) : IntKind.wrap .u16 (x : Int) = x := by
  simp [IntKind.wrap, IntKind.bits, IntKind.signed]; omega
theorem bshr_nat {m i : Nat} (hi : i < 16) : bshr .u16 (m : Int) (i : Int) = ((m / 2 ^ i : Nat) : Int) := by
  unfold bshr
  have h : min (i : Int).toNat (IntKind.bits .u16) = i := by simp [IntKind.bits]; omega
  rw [h, Int.fdiv_eq_ediv_of_nonneg _ (Int.pow_nonneg (by decide))]
  simp
theorem band_nat {a b : Nat} (ha : a < 65536) (hb : b < 65536) : band .u16 (a : Int) (b : Int) = ((a &&& b : Nat) : Int) := by
  unfold band
  have hh : (BitVec.ofInt (IntKind.bits .u16) (a : Int) &&& BitVec.ofInt (IntKind.bits .u16) (b : Int)).toNat = a &&& b := by
    rw [BitVec.toNat_and]
    simp [IntKind.bits, BitVec.ofInt_natCast]
    rw [Nat.mod_eq_of_lt ha, Nat.mod_eq_of_lt hb]
  rw [hh]
  exact u16_wrap (Nat.lt_of_le_of_lt Nat.and_le_left ha)
theorem bor_nat {a b : Nat} (ha : a < 65536) (hb : b < 65536) : bor .u16 (a : Int) (b : Int) = ((a ||| b : Nat) : Int) := by
  unfold bor
  have hh : (BitVec.ofInt (IntKind.bits .u16) (a : Int) ||| BitVec.ofInt (IntKind.bits .u16) (b : Int)).toNat = a ||| b := by
    rw [BitVec.toNat_or]
    simp [IntKind.bits, BitVec.ofInt_natCast]
    rw [Nat.mod_eq_of_lt ha, Nat.mod_eq_of_lt hb]
  rw [hh]
  exact u16_wrap (Nat.or_lt_two_pow (n := 16) ha hb)
theorem bshl_one {i : Nat} (hi : i < 16) : bshl .u16 1 (i : Int) = ((2 ^ i : Nat) : Int) := by
  unfold bshl
  have h : min (i : Int).toNat (IntKind.bits .u16) = i := by simp [IntKind.bits]; omega
  rw [h, Int.one_mul]
  have : (2 : Int) ^ i = ((2 ^ i : Nat) : Int) := by simp
  rw [this]
  exact u16_wrap (Nat.lt_of_lt_of_le (Nat.pow_lt_pow_right (by decide) hi) (by decide))
theorem bit_at {m i : Nat} (hm : m < 65536) (hi : i < 16) : band .u16 (bshr .u16 (m : Int) (i : Int)) 1 = if m.testBit i = true then 1 else 0 := by
  have hd : m / 2 ^ i < 65536 := Nat.lt_of_le_of_lt (Nat.div_le_self _ _) hm
  rw [bshr_nat hi]
  have := band_nat (a := m / 2 ^ i) (b := 1) hd (by decide)
  rw [show ((1 : Nat) : Int) = 1 from rfl] at this
  rw [this, Nat.and_one_is_mod, Nat.testBit_eq_decide_div_mod_eq]
  rcases Nat.mod_two_eq_zero_or_one (m / 2 ^ i) with h | h <;> simp [h]
theorem bit_eq0 {m i : Nat} (hm : m < 65536) (hi : i < 16) : (band .u16 (bshr .u16 (m : Int) (i : Int)) 1 == 0) = !m.testBit i := by
  rw [bit_at hm hi]; cases m.testBit i <;> rfl
theorem bit_eq1 {m i : Nat} (hm : m < 65536) (hi : i < 16) : (band .u16 (bshr .u16 (m : Int) (i : Int)) 1 == 1) = m.testBit i := by
  rw [bit_at hm hi]; cases m.testBit i <;> rfl
def enc (n : Nat) (p : Nat → Bool) : Nat := (List.range n).foldl (fun a i => if p i = true then a ||| 2 ^ i else a) 0
theorem enc_fold (p : Nat → Bool) : ∀ (l : List Nat) (a j : Nat), (l.foldl (fun a i => if p i = true then a ||| 2 ^ i else a) a).testBit j = (a.testBit j || (l.contains j && p j))
  | [], a, j => by simp
  | i :: l, a, j => by
    rw [List.foldl_cons, enc_fold p l]
    by_cases hp : p i = true
    · rw [if_pos hp, Nat.testBit_or, Nat.testBit_two_pow]
      by_cases hij : i = j
      · subst hij; simp [hp]
      · have : (j == i) = false := by simp; exact fun e => hij e.symm
        have h3 : ¬ j = i := fun e => hij e.symm
        simp [hij, h3, List.contains_cons, this]
    · rw [if_neg hp]
      by_cases hij : i = j
      · subst hij; simp [hp]
      · have : (j == i) = false := by simp; exact fun e => hij e.symm
        have h3 : ¬ j = i := fun e => hij e.symm
        simp [h3, List.contains_cons, this]
theorem enc_bit (n : Nat) (p : Nat → Bool) (j : Nat) : (enc n p).testBit j = (decide (j < n) && p j) := by
  unfold enc
  rw [enc_fold]
  simp [List.contains_eq_mem]
theorem enc_lt {n : Nat} (p : Nat → Bool) : enc n p < 2 ^ n := by
  refine Nat.lt_pow_two_of_testBit _ fun i hi => ?_
  rw [enc_bit]; simp; omega
theorem enc_16 {n : Nat} (hn : n ≤ 10) (p : Nat → Bool) : enc n p < 65536 := Nat.lt_of_lt_of_le (enc_lt p) (Nat.le_trans (Nat.pow_le_pow_right (by decide) hn) (by decide))
theorem enc_eq {n m : Nat} {p : Nat → Bool} (h : ∀ j, m.testBit j = (decide (j < n) && p j)) : m = enc n p := Nat.eq_of_testBit_eq fun j => by rw [h, enc_bit]
theorem enc_inj {n : Nat} {p q : Nat → Bool} : enc n p = enc n q ↔ ∀ i, i < n → p i = q i := by
  constructor
  · intro h i hi
    have := congrArg (fun m => m.testBit i) h
    simpa [enc_bit, hi] using this
  · intro h
    exact enc_eq fun j => by
      rw [enc_bit]
      by_cases hj : j < n
      · simp [hj, h j hj]
      · simp [hj]
theorem enc_zero {n : Nat} {p : Nat → Bool} : enc n p = 0 ↔ ∀ i, i < n → p i = false := by
  have h0 : (0 : Nat) = enc n fun _ => false := enc_eq fun j => by simp
  rw [h0, enc_inj]
def path (n rib st : Nat) : List Nat := (List.range' 1 (n - 1)).map fun k => (rib + k * st) % n
def sideS (L : Nat → Int) (p : Nat → Bool) (l : List Nat) : Int := ((l.takeWhile p).map L).foldl (· + ·) 0
def bearsS (L : Nat → Int) (p : Nat → Bool) (n i : Nat) : Int := L i + (sideS L p (path n i 1)).tdiv 2 + (sideS L p (path n i (n - 1))).tdiv 2
def stepS (L S : Nat → Int) (n : Nat) (p : Nat → Bool) : Nat → Bool := fun i => p i || (decide (i < n) && decide (S i < bearsS L p n i))
def G (L S : Nat → Int) (n : Nat) : Nat → Nat → Bool
  | 0 => fun _ => false
  | k + 1 => stepS L S n (G L S n k)
theorem sum_acc (L : Nat → Int) : ∀ (l : List Nat) (a : Int), (l.map L).foldl (· + ·) a = a + (l.map L).foldl (· + ·) 0
  | [], a => by simp
  | x :: l, a => by
    simp only [List.map_cons, List.foldl_cons]
    rw [sum_acc L l (a + L x), sum_acc L l (0 + L x)]; omega
theorem sideS_cons {L : Nat → Int} {p : Nat → Bool} {a : Nat} {l : List Nat} : sideS L p (a :: l) = if p a = true then L a + sideS L p l else 0 := by
  unfold sideS
  by_cases h : p a = true
  · rw [if_pos h, List.takeWhile_cons_of_pos h, List.map_cons, List.foldl_cons, sum_acc]; omega
  · rw [if_neg h, List.takeWhile_cons_of_neg h]; rfl
theorem sideS_nil {L : Nat → Int} {p : Nat → Bool} : sideS L p [] = 0 := rfl
theorem sideS_in {L : Nat → Int} {M : Int} (p : Nat → Bool) : ∀ (l : List Nat), (∀ i ∈ l, 0 ≤ L i ∧ L i ≤ M) → 0 ≤ sideS L p l ∧ sideS L p l ≤ M * l.length
  | [], _ => by simp [sideS_nil]
  | a :: l, h => by
    obtain ⟨h1, h2⟩ := sideS_in p l fun i hi => h i (List.mem_cons_of_mem _ hi)
    obtain ⟨h3, h4⟩ := h a (List.mem_cons_self ..)
    have hM : M * ((a :: l).length : Nat) = M * l.length + M := by
      rw [List.length_cons]; push_cast; rw [Int.mul_add, Int.mul_one]
    have hm : 0 ≤ M * (l.length : Int) := Int.mul_nonneg (by omega) (by omega)
    rw [sideS_cons, hM]
    split <;> omega
theorem path_lt {n rib st : Nat} (hn : 0 < n) {i : Nat} (h : i ∈ path n rib st) : i < n := by
  obtain ⟨k, _, rfl⟩ := List.mem_map.1 h
  exact Nat.mod_lt _ hn
theorem path_len (n rib st : Nat) : (path n rib st).length = n - 1 := by simp [path]
/-- loads are known to be small -/
def LOk (L : Nat → Int) (n : Nat) : Prop := ∀ i, i < n → 0 ≤ L i ∧ L i ≤ 20000
theorem side_in {L : Nat → Int} {n : Nat} (hL : LOk L n) (hn : 0 < n) (hn2 : n ≤ 10) (p : Nat → Bool) (i st : Nat) : 0 ≤ sideS L p (path n i st) ∧ sideS L p (path n i st) ≤ 200000 := by
  obtain ⟨h1, h2⟩ := sideS_in (L := L) (M := 20000) p (path n i st) fun j hj => hL j (path_lt hn hj)
  rw [path_len] at h2
  omega
theorem side_mono {L L' : Nat → Int} {p p' : Nat → Bool} : ∀ (l : List Nat), (∀ i ∈ l, 0 ≤ L i ∧ L i ≤ L' i) → (∀ i ∈ l, p i = true → p' i = true) → sideS L p l ≤ sideS L' p' l
  | [], _, _ => by simp [sideS_nil]
  | a :: l, h, hp => by
    have ih := side_mono l (fun i hi => h i (List.mem_cons_of_mem _ hi)) fun i hi => hp i (List.mem_cons_of_mem _ hi)
    have h0 := (sideS_in (L := L) (M := l.foldl (fun m i => max m (L i)) 0) p [] (by simp)).1
    obtain ⟨h3, h4⟩ := h a (List.mem_cons_self ..)
    rw [sideS_cons, sideS_cons]
    by_cases hpa : p a = true
    · rw [if_pos hpa, if_pos (hp a (List.mem_cons_self ..) hpa)]; omega
    · rw [if_neg hpa]
      split
      · have : ∀ (l : List Nat), (∀ i ∈ l, 0 ≤ L' i) → 0 ≤ sideS L' p' l := by
          intro l
          induction l with
          | nil => intro _; simp [sideS_nil]
          | cons b l ih => intro h; rw [sideS_cons]; have := ih fun i hi => h i (List.mem_cons_of_mem _ hi); have := h b (List.mem_cons_self ..); split <;> omega
        have := this l fun i hi => by have := h i (List.mem_cons_of_mem _ hi); omega
        omega
      · omega
theorem tdiv2_mono {a b : Int} (h0 : 0 ≤ a) (h : a ≤ b) : a.tdiv 2 ≤ b.tdiv 2 := by
  rw [Int.tdiv_eq_ediv_of_nonneg h0, Int.tdiv_eq_ediv_of_nonneg (by omega)]; omega
theorem tdiv2_in {a : Int} (h0 : 0 ≤ a) (h : a ≤ 200000) : 0 ≤ a.tdiv 2 ∧ a.tdiv 2 ≤ 100000 := by
  rw [Int.tdiv_eq_ediv_of_nonneg h0]; omega
theorem bears_mono {L L' : Nat → Int} {n : Nat} (hn : 0 < n) (hL : ∀ i, i < n → 0 ≤ L i ∧ L i ≤ L' i) {p p' : Nat → Bool} (hp : ∀ i, i < n → p i = true → p' i = true) {i : Nat} (hi : i < n) : bearsS L p n i ≤ bearsS L' p' n i := by
  have key : ∀ st, 0 ≤ sideS L p (path n i st) ∧ sideS L p (path n i st) ≤ sideS L' p' (path n i st) := fun st => by
    refine ⟨?_, side_mono _ (fun j hj => hL j (path_lt hn hj)) fun j hj => hp j (path_lt hn hj)⟩
    have := side_mono (L := fun _ => 0) (L' := L) (p := fun _ => false) (p' := p) (path n i st) (fun j hj => ⟨Int.le_refl _, (hL j (path_lt hn hj)).1⟩) fun _ _ h => by simp at h
    have h0 : sideS (fun _ => 0) (fun _ => false) (path n i st) = 0 := by
      cases path n i st with
      | nil => rfl
      | cons a l => rw [sideS_cons]; rfl
    omega
  have h1 := tdiv2_mono (key 1).1 (key 1).2
  have h2 := tdiv2_mono (key (n - 1)).1 (key (n - 1)).2
  have := (hL i hi).2
  unfold bearsS
  omega
theorem step_mono {L L' S S' : Nat → Int} {n : Nat} (hn : 0 < n) (hL : ∀ i, i < n → 0 ≤ L i ∧ L i ≤ L' i) (hS : ∀ i, i < n → S' i ≤ S i) {p p' : Nat → Bool} (hp : ∀ i, i < n → p i = true → p' i = true) {i : Nat} (hi : i < n) (h : stepS L S n p i = true) : stepS L' S' n p' i = true := by
  unfold stepS at h ⊢
  simp only [Bool.or_eq_true, Bool.and_eq_true, decide_eq_true_eq] at h ⊢
  rcases h with h | ⟨_, h⟩
  · exact .inl (hp i hi h)
  · have := bears_mono hn hL hp hi
    have := hS i hi
    exact .inr ⟨hi, by omega⟩
theorem G_mono {L L' S S' : Nat → Int} {n : Nat} (hn : 0 < n) (hL : ∀ i, i < n → 0 ≤ L i ∧ L i ≤ L' i) (hS : ∀ i, i < n → S' i ≤ S i) : ∀ (k i : Nat), i < n → G L S n k i = true → G L' S' n k i = true
  | 0, i, hi, h => by simp [G] at h
  | k + 1, i, hi, h => step_mono hn hL hS (fun j hj => G_mono hn hL hS k j hj) hi h
theorem G_up {L S : Nat → Int} {n : Nat} (k i : Nat) (h : G L S n k i = true) : G L S n (k + 1) i = true := by
  show stepS L S n (G L S n k) i = true
  simp [stepS, h]
/-- rounds without a change -/
def fixd (L S : Nat → Int) (n k : Nat) : Prop := ∀ i, i < n → G L S n (k + 1) i = G L S n k i
/-- how many stand -/
def left (L S : Nat → Int) (n k : Nat) : Nat := (List.range n).countP fun i => !G L S n k i
theorem left_le (L S : Nat → Int) (n k : Nat) : left L S n k ≤ n := by
  unfold left; exact Nat.le_trans List.countP_le_length (by simp)
theorem countP_lt {α : Type} {p q : α → Bool} : ∀ (l : List α), (∀ x ∈ l, q x = true → p x = true) → (∃ x ∈ l, p x = true ∧ q x = false) → l.countP q < l.countP p
  | [], _, h => by simp at h
  | a :: l, h, ⟨x, hx, h1, h2⟩ => by
    have hm := List.countP_mono_left (l := l) (p := q) (q := p) fun y hy => h y (List.mem_cons_of_mem _ hy)
    rw [List.countP_cons, List.countP_cons]
    rcases List.mem_cons.1 hx with rfl | hx
    · simp [h1, h2]; omega
    · have := countP_lt l (fun y hy => h y (List.mem_cons_of_mem _ hy)) ⟨x, hx, h1, h2⟩
      have ha := h a (List.mem_cons_self ..)
      cases hq : q a
      · simp; split <;> omega
      · simp [ha hq]; omega
theorem left_lt {L S : Nat → Int} {n k : Nat} (h : ¬ fixd L S n k) : left L S n (k + 1) < left L S n k := by
  unfold fixd at h
  have : ∃ i, i < n ∧ G L S n (k + 1) i ≠ G L S n k i := by
    refine Classical.byContradiction fun hc => h fun i hi => ?_
    exact Classical.byContradiction fun hne => hc ⟨i, hi, hne⟩
  obtain ⟨i, hi, hne⟩ := this
  refine countP_lt _ (fun j _ hj => ?_) ⟨i, List.mem_range.2 hi, ?_, ?_⟩
  · cases hg : G L S n k j
    · rfl
    · rw [G_up _ _ hg] at hj; simp at hj
  · cases hg : G L S n k i
    · rfl
    · exact absurd ((G_up _ _ hg).trans hg.symm) hne
  · cases hg : G L S n k i
    · cases hg2 : G L S n (k + 1) i
      · exact absurd (hg2.trans hg.symm) hne
      · rfl
    · exact absurd ((G_up _ _ hg).trans hg.symm) hne
end Go.Proofs.Yteihdclpiekmaaa
end
section
namespace Go.Proofs.Yteihdclpiekmaaa
open Go Go.RowKit Go.Dec
set_option linter.unusedVariables false
structure BOk (b : gusts_blown) : Prop where
  r : 3 ≤ b.ribs.length ∧ b.ribs.length ≤ 10
  s : b.shares.length = b.ribs.length
  l : 0 ≤ b.lift ∧ b.lift ≤ 200
  sh : ∀ x ∈ b.shares, 0 ≤ x ∧ x ≤ 99
structure GOk (N : Nat) (g : Gust) : Prop where
  f : 0 ≤ g.Force ∧ g.Force ≤ 99
  a : 0 ≤ g.At ∧ g.At < N
def shareS (sh : List Int) (g : Gust) (i : Nat) : Int := (sh[(i + sh.length - g.At.toNat) % sh.length]?).getD 0
def loadS (lift : Int) (sh : List Int) (g : Gust) (i : Nat) : Int := (g.Force * lift * shareS sh g i).tdiv 100
theorem share_get {sh : List Int} {g : Gust} (h0 : 0 < sh.length) (i : Nat) : sh[(i + sh.length - g.At.toNat) % sh.length]? = some (shareS sh g i) := by
  have := Nat.mod_lt (i + sh.length - g.At.toNat) h0
  simp [shareS, this]
theorem share_in {sh : List Int} (hs : ∀ x ∈ sh, 0 ≤ x ∧ x ≤ 99) {g : Gust} (h0 : 0 < sh.length) (i : Nat) : 0 ≤ shareS sh g i ∧ shareS sh g i ≤ 99 := hs _ (List.mem_of_getElem? (share_get h0 i))
theorem prod_in {lift : Int} (hl : 0 ≤ lift ∧ lift ≤ 200) {sh : List Int} (hs : ∀ x ∈ sh, 0 ≤ x ∧ x ≤ 99) {g : Gust} (hf : 0 ≤ g.Force ∧ g.Force ≤ 99) (h0 : 0 < sh.length) (i : Nat) : (0 ≤ g.Force * lift ∧ g.Force * lift ≤ 19800) ∧ (0 ≤ g.Force * lift * shareS sh g i ∧ g.Force * lift * shareS sh g i ≤ 1960200) := by
  have h1 := mul_in hf.1 hf.2 hl.1 hl.2
  have hsh := share_in hs (g := g) h0 i
  have h2 := mul_in (A := 19800) h1.1 (by omega) hsh.1 hsh.2
  exact ⟨⟨h1.1, by omega⟩, h2.1, by omega⟩
theorem load_in {lift : Int} (hl : 0 ≤ lift ∧ lift ≤ 200) {sh : List Int} (hs : ∀ x ∈ sh, 0 ≤ x ∧ x ≤ 99) {g : Gust} (hf : 0 ≤ g.Force ∧ g.Force ≤ 99) (h0 : 0 < sh.length) (i : Nat) : 0 ≤ loadS lift sh g i ∧ loadS lift sh g i ≤ 19602 := by
  have := (prod_in hl hs hf h0 i).2
  unfold loadS
  rw [Int.tdiv_eq_ediv_of_nonneg this.1]
  omega
theorem load_ok {b : gusts_blown} (hb : BOk b) {g : Gust} (hg : GOk b.ribs.length g) : LOk (loadS b.lift b.shares g) b.ribs.length := fun i _ => by
  have := load_in hb.l hb.sh hg.f (by have := hb.s; have := hb.r; omega) i
  omega
theorem tmod_nat (a b : Nat) : (a : Int).tmod (b : Int) = ((a % b : Nat) : Int) := rfl
theorem nz_nat {k : Nat} (h : 0 < k) : nz (k : Int) = some () := by
  unfold nz; rw [if_neg (by omega)]
theorem nneg_nat (k : Nat) : nneg (k : Int) = some () := by
  unfold nneg; rw [if_neg (by omega)]
section
variable {n : Nat} (hn : 100000000 ≤ n)
include hn
theorem p_load {b : gusts_blown} (hb : BOk b) {g : Gust} (hg : GOk b.ribs.length g) {i : Nat} (hi : i < b.ribs.length) : F_gusts_blown_load n b g (i : Int) = some (loadS b.lift b.shares g i) := by
  have _hn := hn
  have h1 := hb.r; have h2 := hb.s; have h3 := hg.a
  have h0 : 0 < b.shares.length := by omega
  have e : w64 (w64 ((i : Int) - g.At) + (b.shares.length : Int)) = ((i + b.shares.length - g.At.toNat : Nat) : Int) := by
    rw [w64_id (n := (i : Int) - g.At) (by omega) (by omega), w64_id (by omega) (by omega)]; omega
  obtain ⟨⟨p1, p2⟩, p3, p4⟩ := prod_in hb.l hb.sh hg.f h0 i
  have hd : 0 ≤ loadS b.lift b.shares g i ∧ loadS b.lift b.shares g i ≤ 19602 := load_in hb.l hb.sh hg.f h0 i
  simp only [F_gusts_blown_load, nz_nat h0, Option.bind_some, e, tmod_nat, geti_nat, share_get h0]
  rw [w64_id (n := g.Force * b.lift) (by omega) (by omega), w64_id (n := g.Force * b.lift * _) (by omega) (by omega)]
  show some (w64 (loadS b.lift b.shares g i)) = _
  rw [w64_id (by omega) (by omega)]
theorem walk_side {b : gusts_blown} (hb : BOk b) {g : Gust} (hg : GOk b.ribs.length g) (p : Nat → Bool) {i : Nat} (hi : i < b.ribs.length) {st : Nat} (hst : st < b.ribs.length) (hback : (i + b.ribs.length * st) % b.ribs.length = i) (hne : ∀ k, 1 ≤ k → k < b.ribs.length → (i + k * st) % b.ribs.length ≠ i) :
    ∀ (m k : Nat) (a : Int) (f : Nat), k + m = b.ribs.length → 1 ≤ k → 0 ≤ a → a ≤ 20000 * k → m < f →
      loopO f (F_gusts_blown_bears_s2 n b g i (enc b.ribs.length p) st) (a, (((i + k * st) % b.ribs.length : Nat) : Int)) = some (a + sideS (loadS b.lift b.shares g) p ((List.range' k m).map fun k => (i + k * st) % b.ribs.length)) := by
  have hr := hb.r
  have hL := load_ok hb hg
  intro m
  induction m with
  | zero =>
    intro k a f hk h1 h2 h3 hf
    have : k = b.ribs.length := by omega
    subst this
    rw [hback]
    refine loop_done ?_ hf
    simp [F_gusts_blown_bears_s2, sideS_nil]
  | succ m ih =>
    intro k a f hk h1 h2 h3 hf
    obtain ⟨f', rfl⟩ : ∃ z, f = z + 1 := ⟨f - 1, by omega⟩
    have hlt : (i + k * st) % b.ribs.length < b.ribs.length := Nat.mod_lt _ (by omega)
    have hne' := hne k h1 (by omega)
    have hneI : ((((i + k * st) % b.ribs.length : Nat) : Int) != (i : Int)) = true := by
      simp only [bne_iff_ne, ne_eq]; intro e; exact hne' (by exact_mod_cast e)
    have hbit := bit_eq1 (m := enc b.ribs.length p) (i := (i + k * st) % b.ribs.length) (enc_16 hr.2 p) (by omega)
    rw [enc_bit] at hbit
    simp only [hlt, decide_true, Bool.true_and] at hbit
    rw [List.range'_succ, List.map_cons, sideS_cons]
    have hl := hL _ hlt
    rw [loopO_succ]
    simp only [F_gusts_blown_bears_s2, hneI, if_true, nneg_nat, Option.bind_some, hbit]
    by_cases hp : p ((i + k * st) % b.ribs.length) = true
    · simp only [hp, if_true, p_load hn hb hg hlt, Option.bind_some, nz_nat (show 0 < b.ribs.length by omega)]
      have e : (w64 ((((i + k * st) % b.ribs.length : Nat) : Int) + (st : Int))).tmod (b.ribs.length : Int) = (((i + (k + 1) * st) % b.ribs.length : Nat) : Int) := by
        rw [w64_id (by omega) (by omega)]
        have : (((i + k * st) % b.ribs.length : Nat) : Int) + (st : Int) = (((i + k * st) % b.ribs.length + st : Nat) : Int) := by omega
        rw [this, tmod_nat, Nat.mod_add_mod, Nat.add_mul, Nat.one_mul, Nat.add_assoc]
      have ha : w64 (a + loadS b.lift b.shares g ((i + k * st) % b.ribs.length)) = a + loadS b.lift b.shares g ((i + k * st) % b.ribs.length) := w64_id (by omega) (by omega)
      rw [e, ha, ih (k + 1) _ f' (by omega) (by omega) (by omega) (by push_cast; omega) (by omega)]
      simp only [Option.some.injEq]
      omega
    · simp only [Bool.not_eq_true] at hp
      simp only [hp, Bool.false_eq_true, if_false, Int.add_zero]
theorem p_side {b : gusts_blown} (hb : BOk b) {g : Gust} (hg : GOk b.ribs.length g) (p : Nat → Bool) {i : Nat} (hi : i < b.ribs.length) {st : Nat} (hst : st < b.ribs.length) (hback : (i + b.ribs.length * st) % b.ribs.length = i) (hne : ∀ k, 1 ≤ k → k < b.ribs.length → (i + k * st) % b.ribs.length ≠ i) :
    loopO n (F_gusts_blown_bears_s2 n b g i (enc b.ribs.length p) st) (0, (w64 ((i : Int) + st)).tmod (b.ribs.length : Int)) = some (sideS (loadS b.lift b.shares g) p (path b.ribs.length i st)) := by
  have hr := hb.r
  have e : (w64 ((i : Int) + st)).tmod (b.ribs.length : Int) = (((i + 1 * st) % b.ribs.length : Nat) : Int) := by
    rw [w64_id (by omega) (by omega)]
    have : (i : Int) + (st : Int) = ((i + st : Nat) : Int) := by omega
    rw [this, tmod_nat, Nat.one_mul]
  rw [e, walk_side hn hb hg p hi hst hback hne (b.ribs.length - 1) 1 0 n (by omega) (by omega) (by omega) (by omega) (by omega)]
  simp [path]
omit hn in
theorem step1 {N i : Nat} (hi : i < N) : (i + N * 1) % N = i ∧ ∀ k, 1 ≤ k → k < N → (i + k * 1) % N ≠ i := by
  refine ⟨by rw [Nat.mul_one, Nat.add_mod_right, Nat.mod_eq_of_lt hi], fun k h1 h2 e => ?_⟩
  rw [Nat.mul_one] at e
  by_cases h : i + k < N
  · rw [Nat.mod_eq_of_lt h] at e; omega
  · rw [Nat.mod_eq_sub_mod (by omega), Nat.mod_eq_of_lt (by omega)] at e; omega
omit hn in
theorem back_mod {N i k : Nat} (hi : i < N) (hk : k ≤ N) : (i + k * (N - 1)) % N = (i + N - k) % N := by
  obtain ⟨M, rfl⟩ : ∃ M, N = M + 1 := ⟨N - 1, by omega⟩
  rw [Nat.add_sub_cancel]
  have : i + k * M + k = (i + (M + 1) - k) + k + (k - 1) * (M + 1) + (if k = 0 then 0 else 0) ∨ k = 0 := by
    cases k with
    | zero => exact .inr rfl
    | succ k =>
      left
      simp only [Nat.add_sub_cancel, ite_self, Nat.add_zero]
      have e1 : (k + 1) * M = k * M + M := by rw [Nat.add_mul, Nat.one_mul]
      have e2 : k * (M + 1) = k * M + k := by rw [Nat.mul_add, Nat.mul_one]
      omega
  rcases this with h | rfl
  · simp only [ite_self, Nat.add_zero] at h
    have h' : i + k * M = (i + (M + 1) - k) + (k - 1) * (M + 1) := by omega
    rw [h', Nat.add_mul_mod_self_right]
  · simp
omit hn in
theorem stepB {N i : Nat} (hi : i < N) : (i + N * (N - 1)) % N = i ∧ ∀ k, 1 ≤ k → k < N → (i + k * (N - 1)) % N ≠ i := by
  refine ⟨by rw [Nat.add_mul_mod_self_left, Nat.mod_eq_of_lt hi], fun k h1 h2 e => ?_⟩
  rw [back_mod hi (by omega)] at e
  by_cases h : i + N - k < N
  · rw [Nat.mod_eq_of_lt h] at e; omega
  · rw [Nat.mod_eq_sub_mod (by omega), Nat.mod_eq_of_lt (by omega)] at e; omega
theorem p_bears {b : gusts_blown} (hb : BOk b) {g : Gust} (hg : GOk b.ribs.length g) (p : Nat → Bool) {i : Nat} (hi : i < b.ribs.length) : F_gusts_blown_bears n b g i (enc b.ribs.length p) = some (bearsS (loadS b.lift b.shares g) p b.ribs.length i) := by
  have hr := hb.r
  have hL := load_ok hb hg
  have a1 := side_in hL (by omega) hr.2 p i 1
  have a2 := side_in hL (by omega) hr.2 p i (b.ribs.length - 1)
  have t1 := tdiv2_in a1.1 a1.2
  have t2 := tdiv2_in a2.1 a2.2
  have hl := hL i hi
  have s1 := p_side hn hb hg p hi (st := 1) (by omega) (step1 hi).1 (step1 hi).2
  have s2 := p_side hn hb hg p hi (st := b.ribs.length - 1) (by omega) (stepB hi).1 (stepB hi).2
  have c2 : w64 ((b.ribs.length : Int) - 1) = ((b.ribs.length - 1 : Nat) : Int) := by rw [w64_id (by omega) (by omega)]; omega
  have hnz := nz_nat (show 0 < b.ribs.length by omega)
  obtain ⟨m, rfl⟩ : ∃ m, n = m + 3 := ⟨n - 3, by omega⟩
  unfold F_gusts_blown_bears
  rw [p_load hn hb hg hi]
  simp only [Option.bind_some]
  have w1 : w64 ((0 : Int) + 1) = 1 := by decide
  have w2 : w64 ((1 : Int) + 1) = 2 := by decide
  have g0 : geti [1, w64 ((b.ribs.length : Int) - 1)] 0 = some ((1 : Nat) : Int) := rfl
  have g1 : geti [1, w64 ((b.ribs.length : Int) - 1)] 1 = some ((b.ribs.length - 1 : Nat) : Int) := by rw [c2]; rfl
  have st0 : F_gusts_blown_bears_s1 (m + 3) b g i (enc b.ribs.length p) (loadS b.lift b.shares g i, 0) = some (.inl (loadS b.lift b.shares g i + (sideS (loadS b.lift b.shares g) p (path b.ribs.length i 1)).tdiv 2, 1)) := by
    simp only [F_gusts_blown_bears_s1, show decide ((0 : Int) < 2) = true from rfl, if_true, g0, Option.bind_some, hnz, s1, w1]
    rw [w64_id (n := (sideS _ _ _).tdiv 2) (by omega) (by omega), w64_id (by omega) (by omega)]
  have st1 : F_gusts_blown_bears_s1 (m + 3) b g i (enc b.ribs.length p) (loadS b.lift b.shares g i + (sideS (loadS b.lift b.shares g) p (path b.ribs.length i 1)).tdiv 2, 1) = some (.inl (bearsS (loadS b.lift b.shares g) p b.ribs.length i, 2)) := by
    simp only [F_gusts_blown_bears_s1, show decide ((1 : Int) < 2) = true from rfl, if_true, g1, Option.bind_some, hnz, s2, w2]
    rw [w64_id (n := (sideS _ _ _).tdiv 2) (by omega) (by omega), w64_id (by omega) (by omega)]
    rfl
  have st2 : F_gusts_blown_bears_s1 (m + 3) b g i (enc b.ribs.length p) (bearsS (loadS b.lift b.shares g) p b.ribs.length i, 2) = some (.inr (bearsS (loadS b.lift b.shares g) p b.ribs.length i)) := by
    simp [F_gusts_blown_bears_s1]
  rw [loopO_succ, st0]
  simp only
  rw [loopO_succ, st1]
  simp only
  rw [loopO_succ, st2]
  rfl
def ribS (b : gusts_blown) (i : Nat) : Int := (b.ribs[i]?).getD 0
theorem p_round {b : gusts_blown} (hb : BOk b) {g : Gust} (hg : GOk b.ribs.length g) (p : Nat → Bool) :
    loopO n (I_gusts_blown_rounds_1_s2 n b g (enc b.ribs.length p)) ((enc b.ribs.length p : Nat), 0) = some ((enc b.ribs.length (stepS (loadS b.lift b.shares g) (ribS b) b.ribs.length p) : Nat) : Int) := by
  have hr := hb.r
  have kk := loop_fold (step := I_gusts_blown_rounds_1_s2 n b g (enc b.ribs.length p)) (List.range b.ribs.length) (fun i (z : Nat) => ((z : Int), (i : Int))) (fun z i => if (!p i && decide (ribS b i < bearsS (loadS b.lift b.shares g) p b.ribs.length i)) = true then z ||| 2 ^ i else z) (fun z => (z : Int)) (fun i z => z < 65536) (n := n) (enc b.ribs.length p) (enc_16 hr.2 p) (fun i x z hx hz => ?_) (fun z hz => ?_) (by simp; omega)
  · obtain ⟨k1, k2⟩ := kk
    rw [show ((0 : Nat) : Int) = 0 from rfl] at k1
    rw [k1]
    simp only [Option.some.injEq, Int.natCast_inj]
    refine enc_eq fun j => ?_
    rw [enc_fold (fun i => !p i && decide (ribS b i < bearsS (loadS b.lift b.shares g) p b.ribs.length i)), enc_bit]
    by_cases hj : j < b.ribs.length
    · simp only [List.contains_eq_mem, List.mem_range, hj, decide_true, Bool.true_and, stepS]
      cases p j <;> simp
    · simp [hj]
  · obtain ⟨hi, hxi⟩ := List.getElem?_eq_some_iff.1 hx
    simp at hi hxi
    subst hxi
    have h2i : 2 ^ i < 65536 := Nat.lt_of_lt_of_le (Nat.pow_lt_pow_right (by decide) (show i < 16 by omega)) (by decide)
    have hrib : b.ribs[i]? = some (ribS b i) := by simp [ribS, hi]
    have hbit := bit_eq0 (m := enc b.ribs.length p) (i := i) (enc_16 hr.2 p) (by omega)
    rw [enc_bit] at hbit
    simp only [hi, decide_true, Bool.true_and] at hbit
    refine ⟨?_, ?_⟩
    · simp only [I_gusts_blown_rounds_1_s2, lt_nat, hi, decide_true, if_true, geti_nat, hrib, Option.bind_some, nneg_nat, hbit, p_bears hn hb hg p hi, w64_nat (show i ≤ 4611686018427387904 by omega)]
      cases hp : p i
      · simp only [Bool.not_false, if_true, Option.bind_some, Bool.true_and, decide_eq_true_eq]
        by_cases hc : ribS b i < bearsS (loadS b.lift b.shares g) p b.ribs.length i
        · simp only [hc, if_true, decide_true, bshl_one (show i < 16 by omega), bor_nat hz h2i, Option.bind_some]
        · simp only [hc, if_false, Bool.false_eq_true, decide_false, Option.bind_some]
      · simp only [Bool.not_true, Bool.false_eq_true, if_false, Option.bind_some, Bool.false_and]
    · split
      · exact Nat.or_lt_two_pow (n := 16) hz h2i
      · exact hz
  · simp only [List.length_range, I_gusts_blown_rounds_1_s2]
    simp
/-- the rounds that are yielded: from round k on, as long as more go -/
def roundsL (L S : Nat → Int) (N : Nat) : Nat → Nat → List Int
  | 0, _ => []
  | m + 1, k => if enc N (G L S N (k + 1)) = enc N (G L S N k) then [] else (enc N (G L S N (k + 1)) : Int) :: roundsL L S N m (k + 1)
theorem p_rounds {b : gusts_blown} (hb : BOk b) {g : Gust} (hg : GOk b.ribs.length g) {σ ρ : Type} (cs : σ → Int → Option (σ ⊕ ρ)) (s : σ) : I_gusts_blown_rounds_1 n b g cs s = foldO cs s (roundsL (loadS b.lift b.shares g) (ribS b) b.ribs.length (b.ribs.length + 1) 0) := by
  have hr := hb.r
  have key : ∀ (m k : Nat) (s : σ) (f : Nat), left (loadS b.lift b.shares g) (ribS b) b.ribs.length k < m → m < f →
      loopO f (I_gusts_blown_rounds_1_s1 n b g cs) (((enc b.ribs.length (G (loadS b.lift b.shares g) (ribS b) b.ribs.length k) : Nat) : Int), s) = foldO cs s (roundsL (loadS b.lift b.shares g) (ribS b) b.ribs.length m k) := by
    intro m
    induction m with
    | zero => intro k s f h; omega
    | succ m ih =>
      intro k s f hk hf
      obtain ⟨f', rfl⟩ : ∃ z, f = z + 1 := ⟨f - 1, by omega⟩
      rw [loopO_succ, roundsL]
      simp only [I_gusts_blown_rounds_1_s1, p_round hn hb hg, Option.bind_some]
      rw [show stepS (loadS b.lift b.shares g) (ribS b) b.ribs.length (G (loadS b.lift b.shares g) (ribS b) b.ribs.length k) = G (loadS b.lift b.shares g) (ribS b) b.ribs.length (k + 1) from rfl]
      by_cases he : enc b.ribs.length (G (loadS b.lift b.shares g) (ribS b) b.ribs.length (k + 1)) = enc b.ribs.length (G (loadS b.lift b.shares g) (ribS b) b.ribs.length k)
      · simp [he, foldO]
      · have he' : (((enc b.ribs.length (G (loadS b.lift b.shares g) (ribS b) b.ribs.length (k + 1)) : Nat) : Int) == ((enc b.ribs.length (G (loadS b.lift b.shares g) (ribS b) b.ribs.length k) : Nat) : Int)) = false := by
          simp only [beq_eq_false_iff_ne, ne_eq, Int.natCast_inj]; exact he
        have hnf : ¬ fixd (loadS b.lift b.shares g) (ribS b) b.ribs.length k := fun h => he (enc_inj.2 h)
        have hl := left_lt hnf
        simp only [he', Bool.false_eq_true, if_false, he, foldO]
        cases hc : cs s ((enc b.ribs.length (G (loadS b.lift b.shares g) (ribS b) b.ribs.length (k + 1)) : Nat) : Int) with
        | none => simp
        | some y =>
          cases y with
          | inl s' => simp only [Option.bind_some]; exact ih (k + 1) s' f' (by omega) (by omega)
          | inr r => simp
  have h0 : enc b.ribs.length (G (loadS b.lift b.shares g) (ribS b) b.ribs.length 0) = 0 := enc_zero.2 fun _ _ => rfl
  have := key (b.ribs.length + 1) 0 s n (by have := left_le (loadS b.lift b.shares g) (ribS b) b.ribs.length 0; omega) (by omega)
  rw [h0] at this
  exact this
theorem p_first {b : gusts_blown} (hb : BOk b) {g : Gust} (hg : GOk b.ribs.length g) : F_gusts_blown_first n b g = some ((enc b.ribs.length (G (loadS b.lift b.shares g) (ribS b) b.ribs.length 1) : Nat) : Int) := by
  have h0 : enc b.ribs.length (G (loadS b.lift b.shares g) (ribS b) b.ribs.length 0) = 0 := enc_zero.2 fun _ _ => rfl
  simp only [F_gusts_blown_first, F_gusts_blown_rounds, Option.bind_some, p_rounds hn hb hg, roundsL, h0, Nat.zero_add]
  by_cases he : enc b.ribs.length (G (loadS b.lift b.shares g) (ribS b) b.ribs.length 1) = 0
  · simp [he, foldO]
  · simp [he, foldO, F_gusts_blown_first_s1]
end
end Go.Proofs.Yteihdclpiekmaaa
end
section
namespace Go.Proofs.Yteihdclpiekmaaa
open Go Go.RowKit Go.Dec
set_option linter.unusedVariables false
section
variable {n : Nat} (hn : 100000000 ≤ n)
include hn
theorem p_ContainsSpan (s : List Span) (f : Span → Option Bool) (p : Span → Bool) (hf : ∀ x, x ∈ s → f x = some (p x)) (hs : s.length ≤ 1000) : F_slices_ContainsFunc___api_Span_api_Span_ n s f = some (s.any p) := by
  have : ∃ k, F_slices_IndexFunc___api_Span_api_Span_ n s f = some k ∧ decide (0 ≤ k) = s.any p := by
    by_cases h : s.any p = true
    · have : ∃ i : Nat, ∃ x, s[i]? = some x ∧ p x = true ∧ ∀ (j : Nat) y, j < i → s[j]? = some y → p y = false := first_of h
      obtain ⟨i, x, h1, h2, h3⟩ := this
      have hil := (List.getElem?_eq_some_iff.1 h1).1
      refine ⟨i, ?_, by rw [h]; simp⟩
      have := loop_run (step := F_slices_IndexFunc___api_Span_api_Span__s1 n s f) (fun j => (j : Int)) (r := .inl (i : Int)) i 0 n (fun j _ hj => ?_) ?_ (by omega)
      · unfold F_slices_IndexFunc___api_Span_api_Span_
        simp only [Int.natCast_zero] at this
        rw [this]; rfl
      · have hj' : j < s.length := by omega
        have e : s[j]? = some s[j] := List.getElem?_eq_getElem hj'
        simp only [F_slices_IndexFunc___api_Span_api_Span__s1, geti_nat, e, Option.bind_some, hf _ (List.getElem_mem hj'), h3 j _ (by omega) e, lt_nat, hj', decide_true, if_true, Bool.false_eq_true, if_false, w64_nat (show j ≤ 4611686018427387904 by omega)]
      · simp only [Nat.zero_add, F_slices_IndexFunc___api_Span_api_Span__s1, geti_nat, h1, Option.bind_some, hf _ (List.mem_of_getElem? h1), h2, lt_nat, hil, decide_true, if_true]
    · have hno : ∀ x ∈ s, p x = false := fun x hx => by
        cases hp : p x with
        | false => rfl
        | true => exact absurd (List.any_eq_true.2 ⟨x, hx, hp⟩) h
      refine ⟨-1, ?_, by simp only [Bool.not_eq_true] at h; rw [h]; rfl⟩
      have := loop_all_l (step := F_slices_IndexFunc___api_Span_api_Span__s1 n s f) s (fun _ => true) (0 : Int) (n := n) (by omega) (fun i x hx hi => ?_) ?_ (by omega)
      · unfold F_slices_IndexFunc___api_Span_api_Span_; rw [this, show (s.all fun _ => true) = true by simp]; rfl
      · simp only [F_slices_IndexFunc___api_Span_api_Span__s1, geti_nat, hx, Option.bind_some, hf _ (List.mem_of_getElem? hx), hno _ (List.mem_of_getElem? hx), lt_nat, hi, decide_true, if_true, cond_true, Bool.false_eq_true, if_false, w64_nat (show i ≤ 4611686018427387904 by omega)]
      · simp [F_slices_IndexFunc___api_Span_api_Span__s1]
  obtain ⟨k, h1, h2⟩ := this
  simp only [F_slices_ContainsFunc___api_Span_api_Span_, h1, Option.bind_some, h2]
theorem p_ContainsInt (s : List Int) (f : Int → Option Bool) (p : Int → Bool) (hf : ∀ x, x ∈ s → f x = some (p x)) (hs : s.length ≤ 1000) : F_slices_ContainsFunc___int_int_ n s f = some (s.any p) := by
  have : ∃ k, F_slices_IndexFunc___int_int_ n s f = some k ∧ decide (0 ≤ k) = s.any p := by
    by_cases h : s.any p = true
    · have : ∃ i : Nat, ∃ x, s[i]? = some x ∧ p x = true ∧ ∀ (j : Nat) y, j < i → s[j]? = some y → p y = false := first_of h
      obtain ⟨i, x, h1, h2, h3⟩ := this
      have hil := (List.getElem?_eq_some_iff.1 h1).1
      refine ⟨i, ?_, by rw [h]; simp⟩
      have := loop_run (step := F_slices_IndexFunc___int_int__s1 n s f) (fun j => (j : Int)) (r := .inl (i : Int)) i 0 n (fun j _ hj => ?_) ?_ (by omega)
      · unfold F_slices_IndexFunc___int_int_
        simp only [Int.natCast_zero] at this
        rw [this]; rfl
      · have hj' : j < s.length := by omega
        have e : s[j]? = some s[j] := List.getElem?_eq_getElem hj'
        simp only [F_slices_IndexFunc___int_int__s1, geti_nat, e, Option.bind_some, hf _ (List.getElem_mem hj'), h3 j _ (by omega) e, lt_nat, hj', decide_true, if_true, Bool.false_eq_true, if_false, w64_nat (show j ≤ 4611686018427387904 by omega)]
      · simp only [Nat.zero_add, F_slices_IndexFunc___int_int__s1, geti_nat, h1, Option.bind_some, hf _ (List.mem_of_getElem? h1), h2, lt_nat, hil, decide_true, if_true]
    · have hno : ∀ x ∈ s, p x = false := fun x hx => by
        cases hp : p x with
        | false => rfl
        | true => exact absurd (List.any_eq_true.2 ⟨x, hx, hp⟩) h
      refine ⟨-1, ?_, by simp only [Bool.not_eq_true] at h; rw [h]; rfl⟩
      have := loop_all_l (step := F_slices_IndexFunc___int_int__s1 n s f) s (fun _ => true) (0 : Int) (n := n) (by omega) (fun i x hx hi => ?_) ?_ (by omega)
      · unfold F_slices_IndexFunc___int_int_; rw [this, show (s.all fun _ => true) = true by simp]; rfl
      · simp only [F_slices_IndexFunc___int_int__s1, geti_nat, hx, Option.bind_some, hf _ (List.mem_of_getElem? hx), hno _ (List.mem_of_getElem? hx), lt_nat, hi, decide_true, if_true, cond_true, Bool.false_eq_true, if_false, w64_nat (show i ≤ 4611686018427387904 by omega)]
      · simp [F_slices_IndexFunc___int_int__s1]
  obtain ⟨k, h1, h2⟩ := this
  simp only [F_slices_ContainsFunc___int_int_, h1, Option.bind_some, h2]
theorem p_ContainsGust (s : List Gust) (f : Gust → Option Bool) (p : Gust → Bool) (hf : ∀ x, x ∈ s → f x = some (p x)) (hs : s.length ≤ 1000) : F_slices_ContainsFunc___api_Gust_api_Gust_ n s f = some (s.any p) := by
  have : ∃ k, F_slices_IndexFunc___api_Gust_api_Gust_ n s f = some k ∧ decide (0 ≤ k) = s.any p := by
    by_cases h : s.any p = true
    · have : ∃ i : Nat, ∃ x, s[i]? = some x ∧ p x = true ∧ ∀ (j : Nat) y, j < i → s[j]? = some y → p y = false := first_of h
      obtain ⟨i, x, h1, h2, h3⟩ := this
      have hil := (List.getElem?_eq_some_iff.1 h1).1
      refine ⟨i, ?_, by rw [h]; simp⟩
      have := loop_run (step := F_slices_IndexFunc___api_Gust_api_Gust__s1 n s f) (fun j => (j : Int)) (r := .inl (i : Int)) i 0 n (fun j _ hj => ?_) ?_ (by omega)
      · unfold F_slices_IndexFunc___api_Gust_api_Gust_
        simp only [Int.natCast_zero] at this
        rw [this]; rfl
      · have hj' : j < s.length := by omega
        have e : s[j]? = some s[j] := List.getElem?_eq_getElem hj'
        simp only [F_slices_IndexFunc___api_Gust_api_Gust__s1, geti_nat, e, Option.bind_some, hf _ (List.getElem_mem hj'), h3 j _ (by omega) e, lt_nat, hj', decide_true, if_true, Bool.false_eq_true, if_false, w64_nat (show j ≤ 4611686018427387904 by omega)]
      · simp only [Nat.zero_add, F_slices_IndexFunc___api_Gust_api_Gust__s1, geti_nat, h1, Option.bind_some, hf _ (List.mem_of_getElem? h1), h2, lt_nat, hil, decide_true, if_true]
    · have hno : ∀ x ∈ s, p x = false := fun x hx => by
        cases hp : p x with
        | false => rfl
        | true => exact absurd (List.any_eq_true.2 ⟨x, hx, hp⟩) h
      refine ⟨-1, ?_, by simp only [Bool.not_eq_true] at h; rw [h]; rfl⟩
      have := loop_all_l (step := F_slices_IndexFunc___api_Gust_api_Gust__s1 n s f) s (fun _ => true) (0 : Int) (n := n) (by omega) (fun i x hx hi => ?_) ?_ (by omega)
      · unfold F_slices_IndexFunc___api_Gust_api_Gust_; rw [this, show (s.all fun _ => true) = true by simp]; rfl
      · simp only [F_slices_IndexFunc___api_Gust_api_Gust__s1, geti_nat, hx, Option.bind_some, hf _ (List.mem_of_getElem? hx), hno _ (List.mem_of_getElem? hx), lt_nat, hi, decide_true, if_true, cond_true, Bool.false_eq_true, if_false, w64_nat (show i ≤ 4611686018427387904 by omega)]
      · simp [F_slices_IndexFunc___api_Gust_api_Gust__s1]
  obtain ⟨k, h1, h2⟩ := this
  simp only [F_slices_ContainsFunc___api_Gust_api_Gust_, h1, Option.bind_some, h2]
end
def okRib (s : Span) : Bool := wi s.Low 0 s.High && decide (s.High ≤ 99999)
def okSh (x : Int) : Bool := wi x 0 99
def okD (d : Canopy) : Bool := okF d.Frame && wi d.Ribs.length 3 10 && ((d.Shares.length : Int) == (d.Ribs.length : Int)) && d.Ribs.all okRib && d.Shares.all okSh
def okGust (d : Canopy) (g : Gust) : Bool := wi g.Force 0 99 && wi g.At 0 ((d.Ribs.length : Int) - 1)
structure DOk (d : Canopy) : Prop where
  f : FOk d.Frame
  r : 3 ≤ d.Ribs.length ∧ d.Ribs.length ≤ 10
  s : d.Shares.length = d.Ribs.length
  ribs : ∀ s ∈ d.Ribs, 0 ≤ s.Low ∧ s.Low ≤ s.High ∧ s.High ≤ 99999
  sh : ∀ x ∈ d.Shares, 0 ≤ x ∧ x ≤ 99
theorem okD_iff {d : Canopy} : okD d = true ↔ DOk d := by
  simp only [okD, Bool.and_eq_true, okF_iff, wi_t, beq_iff_eq, List.all_eq_true, okRib, okSh, decide_eq_true_eq]
  constructor
  · rintro ⟨⟨⟨⟨h1, h2⟩, h3⟩, h4⟩, h5⟩
    exact ⟨h1, by omega, by omega, fun s hs => by have := h4 s hs; omega, h5⟩
  · rintro ⟨h1, h2, h3, h4, h5⟩
    exact ⟨⟨⟨⟨h1, by omega⟩, by omega⟩, fun s hs => by have := h4 s hs; omega⟩, h5⟩
def Small (d : Canopy) : Prop := d.Frame.Sections.length ≤ 1000 ∧ d.Ribs.length ≤ 1000 ∧ d.Shares.length ≤ 1000
theorem DOk.small {d : Canopy} (h : DOk d) : Small d := by
  have := h.r; have := h.s; have := h.f.n
  exact ⟨by omega, by omega, by omega⟩
def askG (d : Canopy) (l : List Gust) : Int := if okD d = true then (if (decide (l.length ≤ 20) && l.all (okGust d)) = true then 0 else 1) else 50
theorem okGust_iff {d : Canopy} {g : Gust} : okGust d g = true ↔ GOk d.Ribs.length g := by
  simp only [okGust, Bool.and_eq_true, wi_t]
  constructor
  · rintro ⟨h1, h2⟩; exact ⟨h1, by omega⟩
  · rintro ⟨h1, h2⟩; exact ⟨h1, by omega⟩
theorem askG_ok {d : Canopy} {l : List Gust} : askG d l = 0 ↔ DOk d ∧ l.length ≤ 20 ∧ ∀ g ∈ l, GOk d.Ribs.length g := by
  unfold askG
  by_cases h : okD d = true
  · rw [if_pos h]
    by_cases h2 : (decide (l.length ≤ 20) && l.all (okGust d)) = true
    · rw [if_pos h2]
      simp only [Bool.and_eq_true, decide_eq_true_eq, List.all_eq_true, okGust_iff] at h2
      exact ⟨fun _ => ⟨okD_iff.1 h, h2⟩, fun _ => rfl⟩
    · rw [if_neg h2]
      simp only [Bool.and_eq_true, decide_eq_true_eq, List.all_eq_true, okGust_iff] at h2
      exact ⟨fun h => by simp at h, fun h => absurd h.2 h2⟩
  · rw [if_neg h]
    exact ⟨fun h => by simp at h, fun h2 => absurd (okD_iff.2 h2.1) h⟩
def ofL (c : Frac) : Int := min 200 (max 0 (100 + (100 * c.Num) / c.Den))
theorem ofL_in (c : Frac) : 0 ≤ ofL c ∧ ofL c ≤ 200 := by unfold ofL; omega
theorem floor_of {a b : Int} (hb : 0 < b) : (if a.tmod b < 0 then a.tdiv b - 1 else a.tdiv b) = a / b := by
  have h1 := Int.mul_tdiv_add_tmod a b
  have h2 := Int.tmod_lt_of_pos a hb
  have h3 : -b < a.tmod b := Int.lt_tmod_of_pos a hb
  split
  · have := (Int.ediv_emod_unique (a := a) (b := b) (q := a.tdiv b - 1) (r := a.tmod b + b) hb).2 ⟨by rw [Int.mul_sub, Int.mul_one]; omega, by omega, by omega⟩
    exact this.1.symm
  · have := (Int.ediv_emod_unique (a := a) (b := b) (q := a.tdiv b) (r := a.tmod b) hb).2 ⟨by omega, by omega, by omega⟩
    exact this.1.symm
theorem tdiv_abs {a b M : Int} (h1 : -M ≤ a) (h2 : a ≤ M) : -M ≤ a.tdiv b ∧ a.tdiv b ≤ M := by
  have h := Int.natAbs_tdiv a b
  have h3 := Nat.div_le_self a.natAbs b.natAbs
  have : (a.tdiv b).natAbs ≤ a.natAbs := by rw [h]; exact h3
  omega
theorem ofL_red {c : Frac} (h : 1 ≤ c.Den) : ofL (red c) = ofL c := by
  obtain ⟨g, h1, _, h3, h4, h5⟩ := red_spec h
  unfold ofL
  rw [h3, h4, show 100 * (g * (red c).Num) = g * (100 * (red c).Num) by rw [Int.mul_left_comm], Int.mul_ediv_mul_of_pos _ _ (by omega)]
theorem ofL_mono {x y : Frac} (hx : 1 ≤ x.Den) (hy : 1 ≤ y.Den) (h : ltF y x = false) : ofL x ≤ ofL y := by
  have h' : x.Num * y.Den ≤ y.Num * x.Den := by simp [ltF] at h; omega
  have key : 100 * x.Num / x.Den ≤ 100 * y.Num / y.Den := by
    rw [Int.le_ediv_iff_mul_le (by omega)]
    have h1 : (100 * x.Num / x.Den) * x.Den ≤ 100 * x.Num := Int.ediv_mul_le _ (by omega)
    have h2 : (100 * x.Num / x.Den) * x.Den * y.Den ≤ 100 * x.Num * y.Den := Int.mul_le_mul_of_nonneg_right h1 (by omega)
    have h3 : (100 * x.Num / x.Den) * y.Den * x.Den ≤ 100 * y.Num * x.Den := by
      rw [Int.mul_right_comm]
      refine Int.le_trans h2 ?_
      rw [Int.mul_assoc, Int.mul_assoc]; omega
    exact Int.le_of_mul_le_mul_right h3 (by omega)
  unfold ofL; omega
def liftAt (d : Canopy) (x : frames_sides) : Int := ofL (cosF d.Frame.Low x)
def liftS (d : Canopy) : Span := ⟨ofL (lowF d.Frame.Low (sidesL (secAt d.Frame 0))), ofL (highF d.Frame.Low (sidesL (secAt d.Frame 0)))⟩
theorem sec0 {d : Canopy} (hd : DOk d) : SecOk (secAt d.Frame 0) := hd.f.s _ (secAt_mem (by have := hd.f.n; omega))
theorem lift_spec {d : Canopy} (hd : DOk d) : (∀ x ∈ sidesL (secAt d.Frame 0), (liftS d).Low ≤ liftAt d x ∧ liftAt d x ≤ (liftS d).High) ∧ (∃ x ∈ sidesL (secAt d.Frame 0), liftAt d x = (liftS d).Low) ∧ (∃ x ∈ sidesL (secAt d.Frame 0), liftAt d x = (liftS d).High) := by
  have hl := hd.f.r
  have hs := sec0 hd
  have hd1 : 1 ≤ d.Frame.Low ∧ d.Frame.Low ≤ 6000 := by omega
  have hx : ∀ x ∈ sidesL (secAt d.Frame 0), XOk x := fun x hx => sides_ok hs hx
  have hne := sides_ne hs
  obtain ⟨⟨⟨a, ha, ea⟩, h1⟩, ⟨b, hb, eb⟩, h2⟩ := low_spec hd1 _ hx hne
  have hlo := low_ok hd1 _ hx hne
  refine ⟨fun x hxm => ⟨?_, ?_⟩, ⟨a, ha, ?_⟩, ⟨b, hb, ?_⟩⟩
  · exact ofL_mono hlo.1.1.1 (cos_ok hd1 (hx x hxm)).1.1.1 (h1 x hxm)
  · exact ofL_mono (cos_ok hd1 (hx x hxm)).1.1.1 hlo.2.1.1 (h2 x hxm)
  · show ofL _ = ofL _; rw [ea]
  · show ofL _ = ofL _; rw [eb]
theorem lift_in {d : Canopy} (hd : DOk d) : 0 ≤ (liftS d).Low ∧ (liftS d).Low ≤ (liftS d).High ∧ (liftS d).High ≤ 200 := by
  obtain ⟨h1, ⟨x, hx, e⟩, _⟩ := lift_spec hd
  have := h1 x hx
  have h2 : 0 ≤ (liftS d).Low := (ofL_in (lowF d.Frame.Low (sidesL (secAt d.Frame 0)))).1
  have h3 : (liftS d).High ≤ 200 := (ofL_in (highF d.Frame.Low (sidesL (secAt d.Frame 0)))).2
  exact ⟨h2, by omega, h3⟩
def bestB (d : Canopy) : gusts_blown := ⟨(liftS d).Low, d.Ribs.map (·.High), d.Shares⟩
def worstB (d : Canopy) : gusts_blown := ⟨(liftS d).High, d.Ribs.map (·.Low), d.Shares⟩
theorem best_ok {d : Canopy} (hd : DOk d) : BOk (bestB d) := by
  have := lift_in hd; have := hd.r
  exact ⟨by simpa [bestB] using hd.r, by simpa [bestB] using hd.s, by simp only [bestB]; omega, hd.sh⟩
theorem worst_ok {d : Canopy} (hd : DOk d) : BOk (worstB d) := by
  have := lift_in hd; have := hd.r
  exact ⟨by simpa [worstB] using hd.r, by simpa [worstB] using hd.s, by simp only [worstB]; omega, hd.sh⟩
def ldB (d : Canopy) (g : Gust) : Nat → Int := loadS (liftS d).Low d.Shares g
def ldW (d : Canopy) (g : Gust) : Nat → Int := loadS (liftS d).High d.Shares g
def stB (d : Canopy) (i : Nat) : Int := ((d.Ribs.map (·.High))[i]?).getD 0
def stW (d : Canopy) (i : Nat) : Int := ((d.Ribs.map (·.Low))[i]?).getD 0
def firstP (d : Canopy) (g : Gust) : Nat → Bool := G (ldW d g) (stW d) d.Ribs.length 1
def firstB (d : Canopy) (g : Gust) : Nat → Bool := G (ldB d g) (stB d) d.Ribs.length 1
def noneP (N : Nat) (p : Nat → Bool) : Bool := (List.range N).all fun i => !p i
theorem noneP_iff {N : Nat} {p : Nat → Bool} : noneP N p = true ↔ ∀ i, i < N → p i = false := by simp [noneP]
theorem enc_none {N : Nat} {p : Nat → Bool} : (((enc N p : Nat) : Int) == 0) = noneP N p := by
  rw [Bool.eq_iff_iff, noneP_iff]
  simp only [beq_iff_eq]
  rw [show (0 : Int) = ((0 : Nat) : Int) from rfl, Int.natCast_inj]
  exact enc_zero
def liftT (d : Canopy) : Span × Int := if okD d = true then (liftS d, 0) else (⟨0, 0⟩, 50)
def loadsT (d : Canopy) (g : Gust) : List Span × Int := if askG d [g] = 0 then ((List.range d.Ribs.length).map fun i => ⟨ldB d g i, ldW d g i⟩, 0) else ([], askG d [g])
def standsI (d : Canopy) (l : List Gust) : Int := if (l.all fun g => noneP d.Ribs.length (firstP d g)) = true then 1 else if (l.all fun g => noneP d.Ribs.length (firstB d g)) = true then 3 else 2
def standsT (d : Canopy) (l : List Gust) : Int × Int := if askG d l = 0 then (standsI d l, 0) else (0, askG d l)
section
variable {n : Nat} (hn : 100000000 ≤ n)
include hn
theorem p_gCheck {d : Canopy} (hs : Small d) : F_gusts_Check n d = some (if okD d = true then 0 else 50) := by
  have c1 := p_ContainsSpan hn d.Ribs (fun a0_ => F_gusts_Check_1 n a0_) (fun s => !okRib s) (fun s _ => by
    show some ((!wi s.Low 0 s.High) || decide (99999 < s.High)) = _
    have : decide (99999 < s.High) = !decide (s.High ≤ 99999) := by rw [← decide_not]; congr 1; simp
    rw [this, okRib, Bool.not_and]) hs.2.1
  have c2 := p_ContainsInt hn d.Shares (fun a0_ => F_gusts_Check_2 n a0_) (fun s => !okSh s) (fun s _ => rfl) hs.2.2
  have e1 : (d.Ribs.any fun s => !okRib s) = !d.Ribs.all okRib := by simp [List.any_eq_not_all_not]
  have e2 : (d.Shares.any fun s => !okSh s) = !d.Shares.all okSh := by simp [List.any_eq_not_all_not]
  have e3 : ((if okF d.Frame = true then (0 : Int) else 10) != 0) = !okF d.Frame := by cases okF d.Frame <;> rfl
  have ew : ∀ a b c, F_gusts_within n a b c = some (wi a b c) := fun _ _ _ => rfl
  simp only [F_gusts_Check, p_Check hn hs.1, Option.bind_some, e3, ew, or_br, c1, c2, e1, e2]
  have e4 : ((d.Shares.length : Int) != (d.Ribs.length : Int)) = !((d.Shares.length : Int) == (d.Ribs.length : Int)) := rfl
  have e : ((((!okF d.Frame || !wi (↑d.Ribs.length) 3 10) || !((d.Shares.length : Int) == (d.Ribs.length : Int))) || !d.Ribs.all okRib) || !d.Shares.all okSh) = !okD d := by
    simp only [okD, Bool.not_and]
  rw [e4, e]
  cases okD d <;> rfl
theorem p_gask {d : Canopy} (hs : Small d) {l : List Gust} (hl : l.length ≤ 1000) : F_gusts_ask n d l = some (askG d l) := by
  have ew : ∀ a b c, F_gusts_within n a b c = some (wi a b c) := fun _ _ _ => rfl
  have c := p_ContainsGust hn l (fun a0_ => F_gusts_ask_1 n a0_ d) (fun g => !okGust d g) (fun g _ => by
    simp only [F_gusts_ask_1, ew, Option.bind_some, or_br, okGust, Bool.not_and]
    rw [w64_id (by have := hs.2.1; omega) (by have := hs.2.1; omega)]) hl
  have e1 : (l.any fun g => !okGust d g) = !l.all (okGust d) := by simp [List.any_eq_not_all_not]
  simp only [F_gusts_ask, p_gCheck hn hs, Option.bind_some, c, e1, or_br, askG]
  cases okD d
  · rfl
  · simp only [if_true, bne_self_eq_false, Bool.false_eq_true, if_false]
    have e2 : (decide (20 < (l.length : Int)) || !l.all (okGust d)) = !(decide (l.length ≤ 20) && l.all (okGust d)) := by
      rw [Bool.not_and]
      congr 1
      rw [← decide_not]; congr 1; simp; omega
    rw [e2]
    cases (decide (l.length ≤ 20) && l.all (okGust d)) <;> rfl
theorem p_of {c : Frac} (h : FracOk c) : F_gusts_lift_1 n c = some (ofL c) := by
  have _hn := hn
  obtain ⟨⟨h1, h2⟩, h3, h4⟩ := h
  have hb : 0 < c.Den := by omega
  have hd := tdiv_abs (a := 100 * c.Num) (b := c.Den) (M := 4000000000) (by omega) (by omega)
  have hf := floor_of (a := 100 * c.Num) hb
  have hz : nz c.Den = some () := by unfold nz; rw [if_neg (by omega)]
  simp only [F_gusts_lift_1, F_gusts_down, hz, Option.bind_some]
  rw [w64_id (n := 100 * c.Num) (by omega) (by omega), w64_id (n := (100 * c.Num).tdiv c.Den) (by omega) (by omega), w64_id (n := (100 * c.Num).tdiv c.Den - 1) (by omega) (by omega)]
  unfold ofL
  rw [← hf]
  by_cases hc : (100 * c.Num).tmod c.Den < 0
  · simp only [hc, decide_true, if_true, Option.bind_some]
    rw [w64_id (by omega) (by omega)]
  · simp only [hc, decide_false, Bool.false_eq_true, if_false, Option.bind_some]
    rw [w64_id (by omega) (by omega)]
theorem p_lift {d : Canopy} (hd : DOk d) : F_gusts_lift n d = some (liftS d) := by
  have hl := hd.f.r
  have hs := sec0 hd
  have hd1 : 1 ≤ d.Frame.Low ∧ d.Frame.Low ≤ 6000 := by omega
  have hlo := low_ok hd1 _ (fun x hx => sides_ok hs hx) (sides_ne hs)
  have ha : askT d.Frame 0 d.Frame.Low = 0 := ask_zero (okF_iff.2 hd.f) (by
    have := hd.f.n
    simp only [Bool.and_eq_true, wi_t]; omega)
  have hdist : dist d.Frame 0 d.Frame.Low = d.Frame.Low := by
    have : (d.Frame.Sections.take (0 + 1)).drop 1 = [] := by cases d.Frame.Sections <;> simp
    unfold dist; rw [this]; rfl
  have e : cosineT d.Frame 0 d.Frame.Low = (red (lowF d.Frame.Low (sidesL (secAt d.Frame 0))), red (highF d.Frame.Low (sidesL (secAt d.Frame 0))), 0) := by
    unfold cosineT
    rw [if_pos ha, show (0 : Int).toNat = 0 from rfl, hdist, if_neg (by omega)]
  simp only [F_gusts_lift, p_Cosine hn hd.small.1, e, Option.bind_some, p_of hn (red_ok hlo.1), p_of hn (red_ok hlo.2), ofL_red hlo.1.1.1, ofL_red hlo.2.1.1]
  rfl
theorem p_ends {d : Canopy} (hd : DOk d) : F_gusts_ends n d = some (bestB d, worstB d) := by
  have hr := hd.r
  have kk := loop_fold (step := F_gusts_ends_s1 n d) d.Ribs (fun i (z : List Int × List Int) => ((i : Int), z.1, z.2)) (fun z s => (z.1 ++ [s.High], z.2 ++ [s.Low])) (fun z => (z.1, z.2)) (fun i z => z.1.length = i ∧ z.2.length = i) (n := n) ([], []) ⟨rfl, rfl⟩ (fun i x z hx hz => ?_) (fun z hz => ?_) (by omega)
  · have k1 := kk.1
    rw [show ((0 : Nat) : Int) = 0 from rfl] at k1
    simp only at k1
    simp only [F_gusts_ends, p_lift hn hd, Option.bind_some, k1, bestB, worstB]
    have e := foldl_pair (fun (z : List Int) (s : Span) => z ++ [s.High]) (fun (z : List Int) (s : Span) => z ++ [s.Low]) d.Ribs [] []
    rw [e, foldl_append_map, foldl_append_map]
    rfl
  · have hi := (List.getElem?_eq_some_iff.1 hx).1
    refine ⟨?_, ?_⟩
    · simp only [F_gusts_ends_s1, lt_nat, hi, decide_true, if_true, geti_nat, hx, Option.bind_some]
      rw [lim_ok (by simp; omega), lim_ok (by simp; omega)]
      simp only [Option.bind_some, w64_nat (show i ≤ 4611686018427387904 by omega)]
    · simp [hz.1, hz.2]
  · simp [F_gusts_ends_s1]
theorem p_Lift {d : Canopy} (hs : Small d) : F_gusts_Lift n d = some (liftT d) := by
  simp only [F_gusts_Lift, p_gCheck hn hs, Option.bind_some, liftT]
  by_cases h : okD d = true
  · simp [h, p_lift hn (okD_iff.1 h)]
  · simp [h]
omit hn in
theorem ribs_len {d : Canopy} : (bestB d).ribs.length = d.Ribs.length ∧ (worstB d).ribs.length = d.Ribs.length := by simp [bestB, worstB]
theorem p_Loads {d : Canopy} (hs : Small d) (g : Gust) : F_gusts_Loads n d g = some (loadsT d g) := by
  simp only [F_gusts_Loads, p_gask hn hs (l := [g]) (by simp), Option.bind_some, loadsT]
  by_cases h : askG d [g] = 0
  · obtain ⟨hd, _, hg⟩ := askG_ok.1 h
    have hg := hg g (by simp)
    have hr := hd.r
    simp only [h, bne_self_eq_false, Bool.false_eq_true, if_false, if_true, p_ends hn hd, Option.bind_some]
    have kk := loop_fold (step := F_gusts_Loads_s1 n d g (bestB d, worstB d)) (List.range d.Ribs.length) (fun i (z : List Span) => ((i : Int), z)) (fun z i => z ++ [⟨ldB d g i, ldW d g i⟩]) (fun z => z) (fun i z => z.length = i) (n := n) [] rfl (fun i x z hx hz => ?_) (fun z hz => ?_) (by simp; omega)
    · have k1 := kk.1
      rw [show ((0 : Nat) : Int) = 0 from rfl] at k1
      rw [k1, foldl_append_map]
      rfl
    · obtain ⟨hi, hxi⟩ := List.getElem?_eq_some_iff.1 hx
      simp at hi hxi
      subst hxi
      have l1 := p_load hn (best_ok hd) (g := g) (by rw [ribs_len.1]; exact hg) (i := i) (by rw [ribs_len.1]; exact hi)
      have l2 := p_load hn (worst_ok hd) (g := g) (by rw [ribs_len.2]; exact hg) (i := i) (by rw [ribs_len.2]; exact hi)
      refine ⟨?_, by simp [hz]⟩
      simp only [F_gusts_Loads_s1, lt_nat, hi, decide_true, if_true, l1, l2, Option.bind_some]
      rw [lim_ok (by simp; omega)]
      simp only [Option.bind_some, w64_nat (show i ≤ 4611686018427387904 by omega)]
      rfl
    · simp [F_gusts_Loads_s1]
  · simp [h]
theorem p_firstB {d : Canopy} (hd : DOk d) {g : Gust} (hg : GOk d.Ribs.length g) : F_gusts_blown_first n (bestB d) g = some ((enc d.Ribs.length (firstB d g) : Nat) : Int) := by
  have := p_first hn (best_ok hd) (g := g) (by rw [ribs_len.1]; exact hg)
  rw [ribs_len.1] at this
  exact this
theorem p_firstW {d : Canopy} (hd : DOk d) {g : Gust} (hg : GOk d.Ribs.length g) : F_gusts_blown_first n (worstB d) g = some ((enc d.Ribs.length (firstP d g) : Nat) : Int) := by
  have := p_first hn (worst_ok hd) (g := g) (by rw [ribs_len.2]; exact hg)
  rw [ribs_len.2] at this
  exact this
theorem p_Stands {d : Canopy} (hs : Small d) {l : List Gust} (hl : l.length ≤ 1000) : F_gusts_Stands n d l = some (standsT d l) := by
  simp only [F_gusts_Stands, p_gask hn hs hl, Option.bind_some, standsT]
  by_cases h : askG d l = 0
  · obtain ⟨hd, _, hg⟩ := askG_ok.1 h
    have c1 := p_ContainsGust hn l (fun a0_ => F_gusts_blown_stands_1 n a0_ (worstB d)) (fun g => !noneP d.Ribs.length (firstP d g)) (fun g hgm => by
      simp only [F_gusts_blown_stands_1, p_firstW hn hd (hg g hgm), Option.bind_some]
      rw [← enc_none]; rfl) hl
    have c2 := p_ContainsGust hn l (fun a0_ => F_gusts_blown_stands_1 n a0_ (bestB d)) (fun g => !noneP d.Ribs.length (firstB d g)) (fun g hgm => by
      simp only [F_gusts_blown_stands_1, p_firstB hn hd (hg g hgm), Option.bind_some]
      rw [← enc_none]; rfl) hl
    have e1 : ∀ (q : Gust → Bool), (l.any fun g => !q g) = !l.all q := fun q => by simp [List.any_eq_not_all_not]
    simp only [h, bne_self_eq_false, Bool.false_eq_true, if_false, if_true, p_ends hn hd, Option.bind_some, F_gusts_blown_stands, c1, c2, e1, Bool.not_not, standsI]
    cases (l.all fun g => noneP d.Ribs.length (firstP d g))
    · cases (l.all fun g => noneP d.Ribs.length (firstB d g)) <;> rfl
    · rfl
  · simp [h]
end
end Go.Proofs.Yteihdclpiekmaaa
end
section
namespace Go.Proofs.Yteihdclpiekmaaa
open Go Go.RowKit Go.Dec
set_option linter.unusedVariables false
theorem tdiv100_mono {a b : Int} (h0 : 0 ≤ a) (h : a ≤ b) : a.tdiv 100 ≤ b.tdiv 100 := by
  rw [Int.tdiv_eq_ediv_of_nonneg h0, Int.tdiv_eq_ediv_of_nonneg (by omega)]; omega
theorem load_mono {l l' : Int} (h0 : 0 ≤ l) (hl : l ≤ l') {sh : List Int} (hs : ∀ x ∈ sh, 0 ≤ x ∧ x ≤ 99) {g g' : Gust} (hat : g.At = g'.At) (hf0 : 0 ≤ g.Force) (hf : g.Force ≤ g'.Force) (h : 0 < sh.length) (i : Nat) : 0 ≤ loadS l sh g i ∧ loadS l sh g i ≤ loadS l' sh g' i := by
  have e : shareS sh g' i = shareS sh g i := by unfold shareS; rw [hat]
  have hsh := share_in hs (g := g) h i
  have h1 : 0 ≤ g.Force * l := Int.mul_nonneg hf0 h0
  have h2 : g.Force * l ≤ g'.Force * l' := Int.mul_le_mul hf hl h0 (by omega)
  have h3 : 0 ≤ g.Force * l * shareS sh g i := Int.mul_nonneg h1 hsh.1
  have h4 : g.Force * l * shareS sh g i ≤ g'.Force * l' * shareS sh g i := Int.mul_le_mul_of_nonneg_right h2 hsh.1
  unfold loadS
  rw [e]
  refine ⟨?_, tdiv100_mono h3 h4⟩
  rw [Int.tdiv_eq_ediv_of_nonneg h3]; omega
theorem stW_get {d : Canopy} {i : Nat} {s : Span} (h : d.Ribs[i]? = some s) : stW d i = s.Low := by simp [stW, h]
theorem stB_get {d : Canopy} {i : Nat} {s : Span} (h : d.Ribs[i]? = some s) : stB d i = s.High := by simp [stB, h]
theorem rib_get {d : Canopy} {i : Nat} (h : i < d.Ribs.length) : ∃ s, d.Ribs[i]? = some s ∧ s ∈ d.Ribs := ⟨d.Ribs[i], List.getElem?_eq_getElem h, List.getElem_mem h⟩
theorem st_in {d : Canopy} (hd : DOk d) {i : Nat} (h : i < d.Ribs.length) : 0 ≤ stW d i ∧ stW d i ≤ stB d i ∧ stB d i ≤ 99999 := by
  obtain ⟨s, h1, h2⟩ := rib_get h
  rw [stW_get h1, stB_get h1]
  exact hd.ribs s h2
theorem sh_pos {d : Canopy} (hd : DOk d) : 0 < d.Shares.length := by have := hd.s; have := hd.r; omega
section
variable {n : Nat} (hn : 100000000 ≤ n)
include hn
omit hn in
theorem p_within05 (n : Nat) (a b c : Int) : F_ref05_within n a b c = some (wi a b c) := rfl
omit hn in
theorem all_idx {α : Type} (l : List α) (p : α → Bool) (q : Nat → Bool) (h : ∀ i x, l[i]? = some x → q i = p x) : (List.range l.length).all q = l.all p := by
  rw [Bool.eq_iff_iff, List.all_eq_true, List.all_eq_true]
  constructor
  · intro h1 x hx
    obtain ⟨i, hi, rfl⟩ := List.getElem_of_mem hx
    rw [← h i _ (List.getElem?_eq_getElem hi)]
    exact h1 i (List.mem_range.2 hi)
  · intro h1 i hi
    have hi := List.mem_range.1 hi
    rw [h i _ (List.getElem?_eq_getElem hi)]
    exact h1 _ (List.getElem_mem hi)
omit hn in
theorem all_and {α : Type} (l : List α) (p q : α → Bool) : (l.all fun x => p x && q x) = (l.all p && l.all q) := by
  induction l with
  | nil => rfl
  | cons a l ih => simp only [List.all_cons, ih]; cases p a <;> cases q a <;> cases l.all p <;> cases l.all q <;> rfl
theorem p_Check05 {d : Canopy} (hs : Small d) : F_ref05_Check n d = some (if okD d = true then 0 else 50) := by
  have e3 : ((if okF d.Frame = true then (0 : Int) else 10) != 0) = !okF d.Frame := by cases okF d.Frame <;> rfl
  have e4 : ((d.Shares.length : Int) != (d.Ribs.length : Int)) = !((d.Shares.length : Int) == (d.Ribs.length : Int)) := rfl
  simp only [F_ref05_Check, p_Check01 hn hs.1, Option.bind_some, e3, e4, p_within05, or_br]
  have e5 : ((!okF d.Frame || !wi (d.Ribs.length : Int) 3 10) || !((d.Shares.length : Int) == (d.Ribs.length : Int))) = !(okF d.Frame && wi (d.Ribs.length : Int) 3 10 && ((d.Shares.length : Int) == (d.Ribs.length : Int))) := by simp only [Bool.not_and]
  rw [e5]
  unfold okD
  by_cases h : (okF d.Frame && wi (d.Ribs.length : Int) 3 10 && ((d.Shares.length : Int) == (d.Ribs.length : Int))) = true
  · have hsl : d.Shares.length = d.Ribs.length := by
      simp only [Bool.and_eq_true, beq_iff_eq] at h; omega
    have hr := hs.2.1
    simp only [h, Bool.not_true, Bool.false_eq_true, if_false, Bool.true_and]
    have kk := loop_all (step := F_ref05_Check_s1 n d) d.Ribs.length (fun i => okRib ((d.Ribs[i]?).getD ⟨0, 0⟩) && okSh ((d.Shares[i]?).getD 0)) (50 : Int) (n := n) (by omega) (fun i hi => ?_) ?_ (by omega)
    · rw [kk, all_and]
      rw [all_idx d.Ribs okRib (fun i => okRib ((d.Ribs[i]?).getD ⟨0, 0⟩)) (fun i x hx => by rw [hx]; rfl)]
      have := all_idx d.Shares okSh (fun i => okSh ((d.Shares[i]?).getD 0)) (fun i x hx => by rw [hx]; rfl)
      rw [hsl] at this
      rw [this]
      cases (d.Ribs.all okRib && d.Shares.all okSh) <;> rfl
    · have h1 : d.Ribs[i]? = some d.Ribs[i] := List.getElem?_eq_getElem hi
      have h2 : d.Shares[i]? = some (d.Shares[i]'(by omega)) := List.getElem?_eq_getElem (by omega)
      simp only [F_ref05_Check_s1, lt_nat, hi, decide_true, if_true, geti_nat, h1, h2, Option.bind_some, p_within05, or_br, Option.getD_some, w64_nat (show i ≤ 4611686018427387904 by omega)]
      have e6 : decide (99999 < d.Ribs[i].High) = !decide (d.Ribs[i].High ≤ 99999) := by rw [← decide_not]; congr 1; simp
      have e7 : ((!wi d.Ribs[i].Low 0 d.Ribs[i].High || decide (99999 < d.Ribs[i].High)) || !wi (d.Shares[i]'(by omega)) 0 99) = !(okRib d.Ribs[i] && okSh (d.Shares[i]'(by omega))) := by
        rw [e6]; simp only [okRib, okSh, Bool.not_and]
      rw [e7]
      cases (okRib d.Ribs[i] && okSh (d.Shares[i]'(by omega))) <;> rfl
    · simp [F_ref05_Check_s1]
  · simp only [Bool.not_eq_true] at h
    simp only [h, Bool.not_false, if_true, Bool.false_and, Bool.false_eq_true, if_false]
end
end Go.Proofs.Yteihdclpiekmaaa
end
section
namespace Go.Proofs.Yteihdclpiekmaaa
open Go Go.RowKit Go.Dec
set_option linter.unusedVariables false
def lst {α : Type} (N : Nat) (f : Nat → α) : List α := (List.range N).map f
def part {α : Type} (N i : Nat) (f g : Nat → α) : List α := lst N fun j => if j < i then f j else g j
section
variable {n : Nat} (hn : 100000000 ≤ n)
include hn
end
section
variable {n : Nat} (hn : 100000000 ≤ n)
include hn
end
end Go.Proofs.Yteihdclpiekmaaa
end
section
namespace Go.Proofs.Yteihdclpiekmaaa
open Go Go.RowKit Go.Dec
set_option linter.unusedVariables false
section
variable {n : Nat} (hn : 100000000 ≤ n)
include hn
theorem p_Copy05 {d : Canopy} (hs : Small d) : F_ref05_Copy n d = some d := by
  simp only [F_ref05_Copy, p_Copy01 hn hs.1, Option.bind_some, List.nil_append]
  rw [lim_ok (by have := hs.2.1; omega), lim_ok (by have := hs.2.2; omega)]
  rfl
theorem p_Far (d : Canopy) : F_law05_Far n d = some true ∨ (F_law05_Far n d = some false ∧ Small d ∧ d.Frame.Sections.length ≤ 20 ∧ d.Ribs.length ≤ 40 ∧ d.Shares.length ≤ 40) := by
  have _hn := hn
  unfold F_law05_Far
  by_cases h1 : 20 < (d.Frame.Sections.length : Int)
  · simp [h1]
  · by_cases h2 : 40 < (d.Ribs.length : Int)
    · simp [h2]
    · by_cases h3 : 40 < (d.Shares.length : Int)
      · simp [h3]
      · right
        refine ⟨by simp [h1, h2, h3], ⟨by omega, by omega, by omega⟩, by omega, by omega, by omega⟩
end
def exD : Canopy := ⟨⟨[⟨⟨50, 52⟩, ⟨60, 60⟩, 0, ⟨1, 1⟩⟩, ⟨⟨40, 40⟩, ⟨45, 46⟩, 5, ⟨1, 2⟩⟩], 20, 100, ⟨1, 20⟩, 300, 351⟩, [⟨100, 110⟩, ⟨60, 60⟩, ⟨50, 55⟩, ⟨40, 40⟩, ⟨50, 50⟩, ⟨60, 60⟩], [10, 6, 3, 1, 3, 6]⟩
set_option maxRecDepth 1000000 in
theorem ex_lift : liftT exD = (⟨65, 76⟩, 0) := by kernel_rfl
end Go.Proofs.Yteihdclpiekmaaa
end
section
namespace Go.Proofs.Yteihdclpiekmaaa
open Go Go.RowKit Go.Dec
set_option linter.unusedVariables false
theorem ld_le {d : Canopy} (hd : DOk d) {g : Gust} (hf : 0 ≤ g.Force) (i : Nat) : 0 ≤ ldB d g i ∧ ldB d g i ≤ ldW d g i := by
  have := lift_in hd
  exact load_mono this.1 this.2.1 hd.sh rfl hf (Int.le_refl _) (sh_pos hd) i
theorem sure_may {d : Canopy} (hd : DOk d) {g : Gust} (hf : 0 ≤ g.Force) (k j : Nat) (hj : j < d.Ribs.length) (h : G (ldB d g) (stB d) d.Ribs.length k j = true) : G (ldW d g) (stW d) d.Ribs.length k j = true :=
  G_mono (by have := hd.r; omega) (fun i _ => ld_le hd hf i) (fun i hi => (st_in hd hi).2.1) k j hj h
/-- domes that differ in their ribs alone -/
structure Same (d o : Canopy) : Prop where
  f : o.Frame = d.Frame
  s : o.Shares = d.Shares
  n : o.Ribs.length = d.Ribs.length
theorem Same.lift {d o : Canopy} (h : Same d o) : liftS o = liftS d := by unfold liftS; rw [h.f]
theorem Same.ldB {d o : Canopy} (h : Same d o) (g : Gust) : ldB o g = ldB d g := by unfold Go.Proofs.Yteihdclpiekmaaa.ldB; rw [h.lift, h.s]
theorem Same.ldW {d o : Canopy} (h : Same d o) (g : Gust) : ldW o g = ldW d g := by unfold Go.Proofs.Yteihdclpiekmaaa.ldW; rw [h.lift, h.s]
theorem noneP_mono {N : Nat} {p q : Nat → Bool} (h : ∀ j, j < N → p j = true → q j = true) (hq : noneP N q = true) : noneP N p = true := noneP_iff.2 fun j hj => by
  cases hp : p j
  · rfl
  · have := noneP_iff.1 hq j hj
    rw [h j hj hp] at this; simp at this
theorem stands_one {d : Canopy} {l : List Gust} : standsI d l = 1 ↔ ∀ g ∈ l, noneP d.Ribs.length (firstP d g) = true := by
  unfold standsI
  rw [← List.all_eq_true]
  split
  · rename_i h; exact ⟨fun _ => h, fun _ => rfl⟩
  · rename_i h
    split <;> exact ⟨fun h2 => by simp at h2, fun h2 => absurd h2 h⟩
theorem firstB_P {d : Canopy} (hd : DOk d) {g : Gust} (hf : 0 ≤ g.Force) {j : Nat} (hj : j < d.Ribs.length) (h : firstB d g j = true) : firstP d g j = true := sure_may hd hf 1 j hj h
theorem stands_two {d : Canopy} (hd : DOk d) {l : List Gust} (hl : ∀ g ∈ l, 0 ≤ g.Force) : standsI d l = 2 ↔ ¬ ∀ g ∈ l, noneP d.Ribs.length (firstB d g) = true := by
  unfold standsI
  rw [← List.all_eq_true]
  split
  · rename_i h
    refine ⟨fun h2 => by simp at h2, fun h2 => absurd ?_ h2⟩
    rw [List.all_eq_true] at h ⊢
    exact fun g hg => noneP_mono (fun j hj => firstB_P hd (hl g hg) hj) (h g hg)
  · split
    · rename_i h; exact ⟨fun h2 => by simp at h2, fun h2 => absurd h h2⟩
    · rename_i h; exact ⟨fun _ => h, fun _ => rfl⟩
end Go.Proofs.Yteihdclpiekmaaa
end
section
namespace Go.Dec
def expand (m : Mp) : List (List Int) := m.flatMap fun p => List.replicate p.2.toNat p.1
/-- the map counts the list's members -/
structure RM (L : List (List Int)) (m : Mp) : Prop where
  srt : Srt m
  pos : ∀ p ∈ m, 0 < p.2
  perm : (expand m).Perm L
theorem mget_cons {p : List Int × Int} {r : Mp} {k : List Int} : mget (p :: r) k = if p.1 = k then p.2 else mget r k := by
  unfold mget
  rw [List.find?_cons]
  by_cases h : p.1 = k
  · have : (p.1 == k) = true := by simpa using h
    rw [this, if_pos h]
  · have : (p.1 == k) = false := by simpa using h
    rw [this, if_neg h]
theorem mget_nil {k : List Int} : mget [] k = 0 := rfl
theorem expand_cons (p : List Int × Int) (r : Mp) : expand (p :: r) = List.replicate p.2.toNat p.1 ++ expand r := by simp [expand]
theorem mget_nonneg {m : Mp} (hp : ∀ p ∈ m, 0 < p.2) (k : List Int) : 0 ≤ mget m k := by
  induction m with
  | nil => simp [mget_nil]
  | cons p r ih =>
    rw [mget_cons]
    split
    · have := hp p (List.mem_cons_self ..); omega
    · exact ih fun q hq => hp q (List.mem_cons_of_mem _ hq)
theorem expand_mput {k : List Int} {c : Int} (hc : 0 < c) : ∀ {m : Mp}, Srt m → (∀ p ∈ m, 0 < p.2) → (expand (mput m k (mget m k + c))).Perm (expand m ++ List.replicate c.toNat k)
  | [], _, _ => by simp [mput, mget_nil, expand]
  | p :: r, hs, hp => by
    obtain ⟨h1, h2⟩ := List.pairwise_cons.1 hs
    have hp' : ∀ q ∈ r, 0 < q.2 := fun q hq => hp q (List.mem_cons_of_mem _ hq)
    have hpp := hp p (List.mem_cons_self ..)
    rw [mget_cons]
    unfold mput
    by_cases e : p.1 = k
    · rw [if_pos e, if_pos (by simpa using e), expand_cons, expand_cons]
      simp only
      have e1 : (p.2 + c).toNat = p.2.toNat + c.toNat := by omega
      rw [e1, ← List.replicate_append_replicate, e]
      rw [List.append_assoc, List.append_assoc]
      exact List.Perm.append_left _ List.perm_append_comm
    · rw [if_neg e, if_neg (by simpa using e)]
      by_cases hl : klt k p.1 = true
      · rw [if_pos hl]
        have h0 : mget r k = 0 := mget_of_not fun q hq e2 => by
          have := klt_trans hl (h1 q hq)
          rw [e2, klt_irrefl] at this
          cases this
        rw [h0, expand_cons, Int.zero_add]
        exact List.perm_append_comm
      · rw [if_neg hl, expand_cons, expand_cons, List.append_assoc]
        exact List.Perm.append_left _ (expand_mput hc h2 hp')
theorem RM.nil : RM [] [] := ⟨List.Pairwise.nil, by simp, by simp [expand]⟩
theorem RM.perm' {L L' : List (List Int)} {m : Mp} (h : RM L m) (hp : L.Perm L') : RM L' m := ⟨h.srt, h.pos, h.perm.trans hp⟩
theorem RM.add {L : List (List Int)} {m : Mp} (h : RM L m) (k : List Int) {c : Int} (hc : 0 < c) : RM (L ++ List.replicate c.toNat k) (mput m k (mget m k + c)) := by
  refine ⟨srt_mput h.srt, fun p hp => ?_, (expand_mput hc h.srt h.pos).trans (h.perm.append_right _)⟩
  rcases (mem_mput h.srt).1 hp with rfl | ⟨hp, _⟩
  · have := mget_nonneg h.pos k; simp only; omega
  · exact h.pos p hp
theorem mget_count {k : List Int} : ∀ {m : Mp}, Srt m → (∀ p ∈ m, 0 < p.2) → mget m k = ((expand m).count k : Nat)
  | [], _, _ => by simp [mget_nil, expand]
  | p :: r, hs, hp => by
    obtain ⟨h1, h2⟩ := List.pairwise_cons.1 hs
    have hp' : ∀ q ∈ r, 0 < q.2 := fun q hq => hp q (List.mem_cons_of_mem _ hq)
    have hpp := hp p (List.mem_cons_self ..)
    rw [mget_cons, expand_cons, List.count_append, List.count_replicate]
    have ih := mget_count (k := k) h2 hp'
    by_cases e : p.1 = k
    · rw [if_pos e, if_pos (by simpa using e)]
      have h0 : mget r k = 0 := mget_of_not fun q hq e2 => by
        have := h1 q hq
        rw [e2, ← e, klt_irrefl] at this
        cases this
      omega
    · rw [if_neg e, if_neg (by simpa using e)]
      omega
theorem RM.get {L : List (List Int)} {m : Mp} (h : RM L m) (k : List Int) : mget m k = (L.count k : Nat) := by
  rw [mget_count h.srt h.pos, h.perm.count_eq]
theorem RM.mem {L : List (List Int)} {m : Mp} (h : RM L m) {p : List Int × Int} : p ∈ m ↔ p.2 = (L.count p.1 : Nat) ∧ p.1 ∈ L := by
  constructor
  · intro hp
    have h1 := mget_of_mem h.srt (k := p.1) (v := p.2) hp
    rw [h.get] at h1
    refine ⟨h1.symm, ?_⟩
    have := h.pos p hp
    exact List.count_pos_iff.1 (by omega)
  · rintro ⟨h1, h2⟩
    have h3 : 0 < L.count p.1 := List.count_pos_iff.2 h2
    have h4 := h.get p.1
    unfold mget at h4
    cases hf : m.find? (fun q => q.1 == p.1) with
    | none => rw [hf] at h4; simp only at h4; omega
    | some q =>
      rw [hf] at h4
      simp only at h4
      have h5 := List.find?_some hf
      have e : q = p := by
        have : q.1 = p.1 := by simpa using h5
        exact Prod.ext this (by omega)
      rw [← e]
      exact List.mem_of_find?_eq_some hf
theorem RM.uniq {L : List (List Int)} {m m' : Mp} (h : RM L m) (h' : RM L m') : m = m' := srt_ext h.srt h'.srt fun p => by rw [h.mem, h'.mem]
theorem RM.key {L : List (List Int)} {m : Mp} (h : RM L m) {x : List Int} : (∃ c, (x, c) ∈ m) ↔ x ∈ L :=
  ⟨fun ⟨_, hc⟩ => (h.mem.1 hc).2, fun hx => ⟨(L.count x : Nat), h.mem.2 ⟨rfl, hx⟩⟩⟩
theorem expand_length : ∀ {m : Mp}, (∀ p ∈ m, 0 < p.2) → ((expand m).length : Int) = (m.map (·.2)).sum
  | [], _ => by simp [expand]
  | p :: r, hp => by
    have ih := expand_length (m := r) fun q hq => hp q (List.mem_cons_of_mem _ hq)
    have hpp := hp p (List.mem_cons_self ..)
    rw [expand_cons, List.length_append, List.length_replicate, List.map_cons, List.sum_cons]
    omega
theorem RM.total {L : List (List Int)} {m : Mp} (h : RM L m) : (m.map (·.2)).sum = (L.length : Nat) := by
  rw [← expand_length h.pos, h.perm.length_eq]
theorem expand_filter (q : List Int → Bool) : ∀ (m : Mp), expand (m.filter fun p => q p.1) = (expand m).filter q
  | [] => by simp [expand]
  | p :: r => by
    rw [expand_cons, List.filter_append]
    cases hq : q p.1 with
    | true => rw [List.filter_cons_of_pos (p := fun p : List Int × Int => q p.1) hq, expand_cons, expand_filter q r, List.filter_replicate_of_pos hq]
    | false => rw [List.filter_cons_of_neg (p := fun p : List Int × Int => q p.1) (by simp [hq]), expand_filter q r, List.filter_replicate_of_neg (by simp [hq]), List.nil_append]
theorem RM.filter {L : List (List Int)} {m : Mp} (h : RM L m) (q : List Int → Bool) : RM (L.filter q) (m.filter fun p => q p.1) :=
  ⟨h.srt.filter _, fun p hp => h.pos p (List.mem_filter.1 hp).1, by rw [expand_filter]; exact h.perm.filter _⟩
def tally (L : List (List Int)) : Mp := L.foldl (fun m k => mput m k (mget m k + 1)) []
theorem tally_ok (L : List (List Int)) : RM L (tally L) := by
  have key : ∀ (L L0 : List (List Int)) (m : Mp), RM L0 m → RM (L0 ++ L) (L.foldl (fun m k => mput m k (mget m k + 1)) m) := by
    intro L
    induction L with
    | nil => intro L0 m h; simpa using h
    | cons k L ih =>
      intro L0 m h
      rw [List.foldl_cons]
      have := ih (L0 ++ [k]) _ (by simpa using h.add k (c := 1) (by omega))
      simpa using this
  have := key L [] [] RM.nil
  rw [List.nil_append] at this
  exact this
theorem RM.eq {L : List (List Int)} {m : Mp} (h : RM L m) : m = tally L := h.uniq (tally_ok L)
theorem RM.len0 {L : List (List Int)} {m : Mp} (h : RM L m) : m = [] ↔ L = [] := by
  constructor
  · rintro rfl
    have := h.perm.length_eq
    exact List.eq_nil_of_length_eq_zero (by simpa [expand] using this.symm)
  · rintro rfl
    cases m with
    | nil => rfl
    | cons p r => have := (h.mem (p := p)).1 (List.mem_cons_self ..); simp at this
theorem foldP_some {S : Type} {step : S → List Int × Int → Option S} (g : S → List Int × Int → S) {m : Mp} : ∀ (l : Mp) (s : S), (∀ x ∈ l, x ∈ m) → (∀ s x, x ∈ m → step s x = some (g s x)) → foldP step s l = some (l.foldl g s)
  | [], _, _, _ => rfl
  | x :: l, s, hl, h => by
    rw [foldP, h s x (hl x (List.mem_cons_self ..))]
    exact foldP_some g l _ (fun y hy => hl y (List.mem_cons_of_mem _ hy)) h
theorem foldl_perm {α β : Type} {g : β → α → β} (hg : ∀ b x y, g (g b x) y = g (g b y) x) {l m : List α} (h : l.Perm m) : ∀ b, l.foldl g b = m.foldl g b := by
  induction h with
  | nil => intro b; rfl
  | cons x _ ih => intro b; exact ih _
  | swap x y l => intro b; simp only [List.foldl_cons]; rw [hg]
  | trans _ _ ih1 ih2 => intro b; rw [ih1, ih2]
theorem permO_comm {S : Type} {step : S → List Int × Int → Option S} (g : S → List Int × Int → S) (hg : ∀ s x y, g (g s x) y = g (g s y) x) {m : Mp} (s : S) (h : ∀ s x, x ∈ m → step s x = some (g s x)) : permO step s m = some (m.foldl g s) :=
  permO_of fun l hl => by
    rw [foldP_some g l s (fun x hx => hl.mem_iff.1 hx) h]
    rw [foldl_perm hg hl s]
end Go.Dec
end
