/-
  A part of the proof of RiRib: the texts RiPfa, RiPfb, RiPfc, RiPfd, RiPfe, RiRpa, RiRpb, RiRpc, EngN, RiOpn.
-/
import Derived.Test.YteihdclpiekmaaaJRiRib7
import Derived.OpenShut
section
namespace Go.Proofs.Yteihdclpiekmaaa
open Go Go.RowKit Go.Dec
set_option linter.unusedVariables false
theorem or_br (c b : Bool) : (if c = true then some true else some b) = some (c || b) := by cases c <;> rfl
theorem and_br (c b : Bool) : (if c = true then some b else some false) = some (c && b) := by cases c <;> rfl
theorem some_br {α : Type} (c : Bool) (a b : α) : (if c = true then some a else some b) = some (if c = true then a else b) := by cases c <;> rfl
theorem lt_nat (i k : Nat) : decide ((i : Int) < (k : Int)) = decide (i < k) := by simp
def wi (n lo hi : Int) : Bool := decide (lo ≤ n) && decide (n ≤ hi)
theorem wi_t {n lo hi : Int} : wi n lo hi = true ↔ lo ≤ n ∧ n ≤ hi := by simp [wi]
theorem p_within (n : Nat) (a b c : Int) : F_frames_within n a b c = some (wi a b c) := rfl
def okSpan (s : Span) : Bool := wi s.Low 1 s.High && decide (s.High ≤ 2000) && decide (w64 (s.High - s.Low) ≤ 6)
def okShare (x : Frac) : Bool := wi x.Den 1 20 && wi x.Num 0 x.Den
def okSec (s : Section) : Bool := okSpan s.Arm && okSpan s.Stretch && wi s.Base 0 2000 && okShare s.Gear
def okF (f : Frame) : Bool := wi f.Sections.length 1 3 && f.Sections.all okSec && (wi f.Low 1 f.High && decide (f.High ≤ 2000) && decide (w64 (f.High - f.Low) ≤ 200)) && okShare f.Ease && wi f.Rod 0 4000 && wi f.Case 0 4000
structure SecOk (s : Section) : Prop where
  a : 1 ≤ s.Arm.Low ∧ s.Arm.Low ≤ s.Arm.High ∧ s.Arm.High ≤ 2000 ∧ s.Arm.High - s.Arm.Low ≤ 6
  b : 1 ≤ s.Stretch.Low ∧ s.Stretch.Low ≤ s.Stretch.High ∧ s.Stretch.High ≤ 2000 ∧ s.Stretch.High - s.Stretch.Low ≤ 6
  c : 0 ≤ s.Base ∧ s.Base ≤ 2000
  d : 1 ≤ s.Gear.Den ∧ s.Gear.Den ≤ 20 ∧ 0 ≤ s.Gear.Num ∧ s.Gear.Num ≤ s.Gear.Den
structure FOk (f : Frame) : Prop where
  n : 1 ≤ f.Sections.length ∧ f.Sections.length ≤ 3
  s : ∀ s ∈ f.Sections, SecOk s
  r : 1 ≤ f.Low ∧ f.Low ≤ f.High ∧ f.High ≤ 2000 ∧ f.High - f.Low ≤ 200
  e : 1 ≤ f.Ease.Den ∧ f.Ease.Den ≤ 20 ∧ 0 ≤ f.Ease.Num ∧ f.Ease.Num ≤ f.Ease.Den
  rod : 0 ≤ f.Rod ∧ f.Rod ≤ 4000
  case : 0 ≤ f.Case ∧ f.Case ≤ 4000
theorem okSpan_iff {s : Span} : okSpan s = true ↔ 1 ≤ s.Low ∧ s.Low ≤ s.High ∧ s.High ≤ 2000 ∧ s.High - s.Low ≤ 6 := by
  simp only [okSpan, Bool.and_eq_true, wi_t, decide_eq_true_eq]
  constructor
  · rintro ⟨⟨⟨h1, h2⟩, h3⟩, h4⟩
    rw [w64_id (by omega) (by omega)] at h4
    exact ⟨h1, h2, h3, h4⟩
  · rintro ⟨h1, h2, h3, h4⟩
    refine ⟨⟨⟨h1, h2⟩, h3⟩, ?_⟩
    rw [w64_id (by omega) (by omega)]; exact h4
theorem okShare_iff {x : Frac} : okShare x = true ↔ 1 ≤ x.Den ∧ x.Den ≤ 20 ∧ 0 ≤ x.Num ∧ x.Num ≤ x.Den := by
  simp only [okShare, Bool.and_eq_true, wi_t]
  constructor
  · rintro ⟨⟨h1, h2⟩, h3, h4⟩; exact ⟨h1, h2, h3, h4⟩
  · rintro ⟨h1, h2, h3, h4⟩; exact ⟨⟨h1, h2⟩, h3, h4⟩
theorem okSec_iff {s : Section} : okSec s = true ↔ SecOk s := by
  simp only [okSec, Bool.and_eq_true, okSpan_iff, okShare_iff, wi_t]
  constructor
  · rintro ⟨⟨⟨h1, h2⟩, h3⟩, h4⟩; exact ⟨h1, h2, h3, h4⟩
  · rintro ⟨h1, h2, h3, h4⟩; exact ⟨⟨⟨h1, h2⟩, h3⟩, h4⟩
theorem okF_iff {f : Frame} : okF f = true ↔ FOk f := by
  simp only [okF, Bool.and_eq_true, okShare_iff, wi_t, List.all_eq_true, okSec_iff, decide_eq_true_eq]
  constructor
  · rintro ⟨⟨⟨⟨⟨h1, h2⟩, ⟨h3, h4⟩, h5⟩, h6⟩, h7⟩, h8⟩
    rw [w64_id (by omega) (by omega)] at h5
    exact ⟨by omega, h2, by omega, h6, h7, h8⟩
  · rintro ⟨h1, h2, h3, h4, h5, h6⟩
    refine ⟨⟨⟨⟨⟨by omega, h2⟩, ⟨by omega, by omega⟩, ?_⟩, h4⟩, h5⟩, h6⟩
    rw [w64_id (by omega) (by omega)]; omega
section
variable {n : Nat} (hn : 100000000 ≤ n)
include hn
theorem p_ContainsSec (s : List Section) (f : Section → Option Bool) (p : Section → Bool) (hf : ∀ x, x ∈ s → f x = some (p x)) (hs : s.length ≤ 1000) : F_slices_ContainsFunc___api_Section_api_Section_ n s f = some (s.any p) := by
  have : ∃ k, F_slices_IndexFunc___api_Section_api_Section_ n s f = some k ∧ decide (0 ≤ k) = s.any p := by
    by_cases h : s.any p = true
    · have : ∃ i : Nat, ∃ x, s[i]? = some x ∧ p x = true ∧ ∀ (j : Nat) y, j < i → s[j]? = some y → p y = false := first_of h
      obtain ⟨i, x, h1, h2, h3⟩ := this
      have hil := (List.getElem?_eq_some_iff.1 h1).1
      refine ⟨i, ?_, by rw [h]; simp⟩
      have := loop_run (step := F_slices_IndexFunc___api_Section_api_Section__s1 n s f) (fun j => (j : Int)) (r := .inl (i : Int)) i 0 n (fun j _ hj => ?_) ?_ (by omega)
      · unfold F_slices_IndexFunc___api_Section_api_Section_
        simp only [Int.natCast_zero] at this
        rw [this]; rfl
      · have hj' : j < s.length := by omega
        have e : s[j]? = some s[j] := List.getElem?_eq_getElem hj'
        simp only [F_slices_IndexFunc___api_Section_api_Section__s1, geti_nat, e, Option.bind_some, hf _ (List.getElem_mem hj'), h3 j _ (by omega) e, lt_nat, hj', decide_true, if_true, Bool.false_eq_true, if_false, w64_nat (show j ≤ 4611686018427387904 by omega)]
      · simp only [Nat.zero_add, F_slices_IndexFunc___api_Section_api_Section__s1, geti_nat, h1, Option.bind_some, hf _ (List.mem_of_getElem? h1), h2, lt_nat, hil, decide_true, if_true]
    · have hno : ∀ x ∈ s, p x = false := fun x hx => by
        cases hp : p x with
        | false => rfl
        | true => exact absurd (List.any_eq_true.2 ⟨x, hx, hp⟩) h
      refine ⟨-1, ?_, by simp only [Bool.not_eq_true] at h; rw [h]; rfl⟩
      have := loop_all_l (step := F_slices_IndexFunc___api_Section_api_Section__s1 n s f) s (fun _ => true) (0 : Int) (n := n) (by omega) (fun i x hx hi => ?_) ?_ (by omega)
      · unfold F_slices_IndexFunc___api_Section_api_Section_; rw [this, show (s.all fun _ => true) = true by simp]; rfl
      · simp only [F_slices_IndexFunc___api_Section_api_Section__s1, geti_nat, hx, Option.bind_some, hf _ (List.mem_of_getElem? hx), hno _ (List.mem_of_getElem? hx), lt_nat, hi, decide_true, if_true, cond_true, Bool.false_eq_true, if_false, w64_nat (show i ≤ 4611686018427387904 by omega)]
      · simp [F_slices_IndexFunc___api_Section_api_Section__s1]
  obtain ⟨k, h1, h2⟩ := this
  simp only [F_slices_ContainsFunc___api_Section_api_Section_, h1, Option.bind_some, h2]
theorem p_Check_1 (s : Section) : F_frames_Check_1 n s = some (!okSec s) := by
  have _hn := hn
  simp only [F_frames_Check_1, F_frames_isPart, F_frames_isShare, p_within, Option.bind_some, and_br, or_br]
  have e : (!(wi s.Arm.Low 1 s.Arm.High && decide (s.Arm.High ≤ 2000) && decide (w64 (s.Arm.High - s.Arm.Low) ≤ 6)) || !(wi s.Stretch.Low 1 s.Stretch.High && decide (s.Stretch.High ≤ 2000) && decide (w64 (s.Stretch.High - s.Stretch.Low) ≤ 6)) || !wi s.Base 0 2000 || !(wi s.Gear.Den 1 20 && wi s.Gear.Num 0 s.Gear.Den)) = !okSec s := by
    simp only [okSec, okSpan, okShare, Bool.not_and, Bool.or_assoc]
  rw [e]
theorem p_Check {f : Frame} (hl : f.Sections.length ≤ 1000) : F_frames_Check n f = some (if okF f = true then 0 else 10) := by
  simp only [F_frames_Check, F_frames_isShare, p_within, Option.bind_some, and_br, or_br, p_ContainsSec hn f.Sections (fun a => F_frames_Check_1 n a) (fun s => !okSec s) (fun s _ => p_Check_1 hn s) hl]
  have e0 : (f.Sections.any fun s => !okSec s) = !f.Sections.all okSec := by simp [List.any_eq_not_all_not]
  rw [e0]
  have e : (!wi f.Sections.length 1 3 || !f.Sections.all okSec || !(wi f.Low 1 f.High && decide (f.High ≤ 2000) && decide (w64 (f.High - f.Low) ≤ 200)) || !(wi f.Ease.Den 1 20 && wi f.Ease.Num 0 f.Ease.Den) || !wi f.Rod 0 4000 || !wi f.Case 0 4000) = !okF f := by
    simp only [okF, okShare, Bool.not_and, Bool.or_assoc]
  rw [e]
  cases okF f <;> rfl
end
def gearStep (r : Int) (s : Section) : Int := s.Base + (r * s.Gear.Num).tdiv s.Gear.Den
def dist (f : Frame) (i : Nat) (r : Int) : Int := ((f.Sections.take (i + 1)).drop 1).foldl gearStep r
theorem gear_in {s : Section} (hs : SecOk s) {r A : Int} (h0 : 0 ≤ r) (hA : r ≤ A) : 0 ≤ gearStep r s ∧ gearStep r s ≤ 2000 + A ∧ 0 ≤ r * s.Gear.Num ∧ r * s.Gear.Num ≤ A * 20 ∧ 0 ≤ (r * s.Gear.Num).tdiv s.Gear.Den ∧ (r * s.Gear.Num).tdiv s.Gear.Den ≤ A := by
  obtain ⟨_, _, hc, hd⟩ := hs
  have h1 := mul_in h0 hA hd.2.2.1 (show s.Gear.Num ≤ 20 by omega)
  have h2 : r * s.Gear.Num ≤ r * s.Gear.Den := Int.mul_le_mul_of_nonneg_left hd.2.2.2 h0
  have h3 : (r * s.Gear.Num).tdiv s.Gear.Den = r * s.Gear.Num / s.Gear.Den := Int.tdiv_eq_ediv_of_nonneg h1.1
  have h4 : 0 ≤ r * s.Gear.Num / s.Gear.Den := Int.ediv_nonneg h1.1 (by omega)
  have h5 : r * s.Gear.Num / s.Gear.Den ≤ r := Int.ediv_le_of_le_mul (by omega) h2
  rw [h3]
  unfold gearStep
  rw [h3]
  refine ⟨by omega, by omega, h1.1, h1.2, h4, by omega⟩
theorem fold_in : ∀ (l : List Section) (r A : Int), (∀ s ∈ l, SecOk s) → 0 ≤ r → r ≤ A → 0 ≤ l.foldl gearStep r ∧ l.foldl gearStep r ≤ A + 2000 * l.length
  | [], r, A, _, h1, h2 => by simp; omega
  | s :: l, r, A, hs, h1, h2 => by
    obtain ⟨k1, k2, _⟩ := gear_in (hs s (List.mem_cons_self ..)) h1 h2
    have := fold_in l (gearStep r s) (2000 + A) (fun x hx => hs x (List.mem_cons_of_mem _ hx)) k1 k2
    simp only [List.foldl_cons, List.length_cons]
    omega
theorem dist_in {f : Frame} (hf : FOk f) {r : Int} (hr : 0 ≤ r ∧ r ≤ 2000) (i : Nat) : 0 ≤ dist f i r ∧ dist f i r ≤ 6000 := by
  have h := fold_in ((f.Sections.take (i + 1)).drop 1) r 2000 (fun s hs => hf.s s (List.mem_of_mem_take (List.mem_of_mem_drop hs))) hr.1 hr.2
  have hl : ((f.Sections.take (i + 1)).drop 1).length ≤ 2 := by
    have := hf.n
    simp only [List.length_drop, List.length_take]
    omega
  unfold dist
  omega
section
variable {n : Nat} (hn : 100000000 ≤ n)
include hn
theorem p_distance {f : Frame} (hf : FOk f) {i : Nat} (hi : i < f.Sections.length) {r : Int} (hr : 0 ≤ r ∧ r ≤ 2000) : F_frames_distance n f i r = some (dist f i r) := by
  have hl := hf.n
  have e1 : w64 ((i : Int) + 1) = ((i + 1 : Nat) : Int) := w64_nat (by omega)
  have e2 : slc f.Sections 1 (((i + 1 : Nat) : Int)) = some ((f.Sections.take (i + 1)).drop 1) := by
    unfold slc
    rw [if_pos (by omega)]
    simp
  simp only [F_frames_distance, e1, e2, Option.bind_some]
  have hlen : ((f.Sections.take (i + 1)).drop 1).length ≤ 2 := by simp; omega
  have := loop_fold (step := F_frames_distance_s1 n ((f.Sections.take (i + 1)).drop 1)) ((f.Sections.take (i + 1)).drop 1) (fun j r => (r, (j : Int))) gearStep (fun r => r) (fun j r => 0 ≤ r ∧ r ≤ 2000 + 2000 * j) (n := n) r (by omega) (fun j s b hj hb => by
    have hjl := (List.getElem?_eq_some_iff.1 hj).1
    have hs := hf.s s (List.mem_of_mem_take (List.mem_of_mem_drop (List.mem_of_getElem? hj)))
    obtain ⟨k1, k2, k3, k4, k5, k6⟩ := gear_in hs hb.1 hb.2
    refine ⟨?_, k1, by omega⟩
    have hd := hs.d
    have hc := hs.c
    have hnz : nz s.Gear.Den = some () := by unfold nz; rw [if_neg (by omega)]
    have hge : gearStep b s = s.Base + (b * s.Gear.Num).tdiv s.Gear.Den := rfl
    simp only [F_frames_distance_s1, geti_nat, hj, Option.bind_some, hnz, lt_nat, hjl, decide_true, if_true, w64_nat (show j ≤ 4611686018427387904 by omega)]
    rw [w64_id (n := b * s.Gear.Num) (by omega) (by omega), w64_id (n := (b * s.Gear.Num).tdiv s.Gear.Den) (by omega) (by omega), w64_id (by omega) (by omega), hge]) (fun b _ => by simp [F_frames_distance_s1]) (by omega)
  simp only [Int.natCast_zero] at this
  rw [this.1]
  rfl
end
def sidesL (s : Section) : List frames_sides := (span s.Arm.Low s.Arm.High).flatMap fun a => (span s.Stretch.Low s.Stretch.High).map fun b => ⟨a, b⟩
theorem sides_mem {s : Section} {x : frames_sides} : x ∈ sidesL s ↔ (s.Arm.Low ≤ x.arm ∧ x.arm ≤ s.Arm.High) ∧ (s.Stretch.Low ≤ x.stretch ∧ x.stretch ≤ s.Stretch.High) := by
  simp only [sidesL, List.mem_flatMap, List.mem_map, span_mem']
  constructor
  · rintro ⟨a, ha, b, hb, rfl⟩; exact ⟨ha, hb⟩
  · rintro ⟨ha, hb⟩; exact ⟨x.arm, ha, x.stretch, hb, rfl⟩
def cosF (d : Int) (x : frames_sides) : Frac := ⟨d * d + x.arm * x.arm - x.stretch * x.stretch, 2 * d * x.arm⟩
def ltF (x y : Frac) : Bool := decide (x.Num * y.Den < y.Num * x.Den)
structure XOk (x : frames_sides) : Prop where
  a : 1 ≤ x.arm ∧ x.arm ≤ 2000
  b : 1 ≤ x.stretch ∧ x.stretch ≤ 2000
theorem sides_ok {s : Section} (hs : SecOk s) {x : frames_sides} (h : x ∈ sidesL s) : XOk x := by
  have := sides_mem.1 h
  have := hs.a; have := hs.b
  exact ⟨by omega, by omega⟩
/-- a cosine's numbers stay small -/
def FracOk (x : Frac) : Prop := (1 ≤ x.Den ∧ x.Den ≤ 24000000) ∧ -40000000 ≤ x.Num ∧ x.Num ≤ 40000000
theorem cos_ok {d : Int} (hd : 1 ≤ d ∧ d ≤ 6000) {x : frames_sides} (hx : XOk x) : FracOk (cosF d x) ∧ (0 ≤ d * d ∧ d * d ≤ 36000000) ∧ (0 ≤ x.arm * x.arm ∧ x.arm * x.arm ≤ 4000000) ∧ (0 ≤ x.stretch * x.stretch ∧ x.stretch * x.stretch ≤ 4000000) := by
  have h1 := mul_in (show 0 ≤ d by omega) hd.2 (show 0 ≤ d by omega) hd.2
  have h2 := mul_in (show 0 ≤ x.arm by have := hx.a; omega) hx.a.2 (show 0 ≤ x.arm by have := hx.a; omega) hx.a.2
  have h3 := mul_in (show 0 ≤ x.stretch by have := hx.b; omega) hx.b.2 (show 0 ≤ x.stretch by have := hx.b; omega) hx.b.2
  have h4 := mul_in (show 0 ≤ 2 * d by omega) (show 2 * d ≤ 12000 by omega) (show 0 ≤ x.arm by have := hx.a; omega) hx.a.2
  have h5 : 1 * 1 ≤ 2 * d * x.arm := Int.mul_le_mul (by omega) hx.a.1 (by omega) (by omega)
  refine ⟨⟨⟨by simp only [cosF]; omega, by simp only [cosF]; omega⟩, by simp only [cosF]; omega, by simp only [cosF]; omega⟩, by omega, by omega, by omega⟩
theorem p_cosine (n : Nat) {d : Int} (hd : 1 ≤ d ∧ d ≤ 6000) {x : frames_sides} (hx : XOk x) : F_frames_sides_cosine n x d = some (cosF d x) := by
  obtain ⟨⟨⟨k1, k2⟩, k3, k4⟩, h1, h2, h3⟩ := cos_ok hd hx
  simp only [cosF] at k1 k2 k3 k4
  simp only [F_frames_sides_cosine, cosF]
  rw [w64_id (n := d * d) (by omega) (by omega), w64_id (n := x.arm * x.arm) (by omega) (by omega), w64_id (n := x.stretch * x.stretch) (by omega) (by omega), w64_id (n := 2 * d) (by omega) (by omega), w64_id (n := 2 * d * x.arm) (by omega) (by omega), w64_id (n := d * d + x.arm * x.arm) (by omega) (by omega), w64_id (by omega) (by omega)]
def cmpF (x y : Frac) : Int := if x.Num * y.Den < y.Num * x.Den then -1 else if y.Num * x.Den < x.Num * y.Den then 1 else 0
theorem p_compare (n : Nat) {x y : Frac} (h1 : -40000000 ≤ x.Num ∧ x.Num ≤ 40000000 ∧ 0 ≤ x.Den ∧ x.Den ≤ 24000000) (h2 : -40000000 ≤ y.Num ∧ y.Num ≤ 40000000 ∧ 0 ≤ y.Den ∧ y.Den ≤ 24000000) : F_frames_compare n x y = some (cmpF x y) := by
  have a := mul_abs h1.1 h1.2.1 h2.2.2.1 h2.2.2.2
  have b := mul_abs h2.1 h2.2.1 h1.2.2.1 h1.2.2.2
  simp only [F_frames_compare, F_cmp_Compare_int_, F_cmp_isNaN_int_, Option.bind_some, bne_self_eq_false, Bool.false_eq_true, if_false]
  rw [w64_id (n := x.Num * y.Den) (by omega) (by omega), w64_id (n := y.Num * x.Den) (by omega) (by omega)]
  unfold cmpF
  by_cases h : x.Num * y.Den < y.Num * x.Den
  · simp [h]
  · by_cases h' : y.Num * x.Den < x.Num * y.Den
    · simp [h, h']
    · simp [h, h']
theorem cmp_lt {x y : Frac} : (cmpF x y < 0) ↔ ltF x y = true := by
  unfold cmpF ltF
  split
  · simp [*]
  · split
    · simp [*]
    · simp [*]
theorem cmp_gt {x y : Frac} : (0 < cmpF x y) ↔ ltF y x = true := by
  unfold cmpF ltF
  split
  · rename_i h
    simp; omega
  · split
    · simp [*]
    · simp [*]
def red (x : Frac) : Frac := ⟨x.Num.tdiv (Int.gcd x.Num x.Den : Nat), x.Den.tdiv (Int.gcd x.Num x.Den : Nat)⟩
theorem red_spec {x : Frac} (h : 1 ≤ x.Den) : ∃ g : Int, 1 ≤ g ∧ g = (Int.gcd x.Num x.Den : Nat) ∧ x.Num = g * (red x).Num ∧ x.Den = g * (red x).Den ∧ 1 ≤ (red x).Den := by
  have hg : 0 < Int.gcd x.Num x.Den := Int.gcd_pos_of_ne_zero_right _ (by omega)
  obtain ⟨a, ha⟩ := Int.gcd_dvd_left x.Num x.Den
  obtain ⟨b, hb⟩ := Int.gcd_dvd_right x.Num x.Den
  have hne : ((Int.gcd x.Num x.Den : Nat) : Int) ≠ 0 := by omega
  have ea : (red x).Num = a := by
    show x.Num.tdiv _ = a
    conv => lhs; arg 1; rw [ha]
    exact Int.mul_tdiv_cancel_left _ hne
  have eb : (red x).Den = b := by
    show x.Den.tdiv _ = b
    conv => lhs; arg 1; rw [hb]
    exact Int.mul_tdiv_cancel_left _ hne
  refine ⟨(Int.gcd x.Num x.Den : Nat), by omega, rfl, by rw [ea]; exact ha, by rw [eb]; exact hb, ?_⟩
  rw [eb]
  rcases Int.lt_or_le 0 b with h' | h'
  · omega
  · exfalso
    have := Int.mul_le_mul_of_nonneg_left h' (show 0 ≤ ((Int.gcd x.Num x.Den : Nat) : Int) by omega)
    omega
theorem ltF_scale {g g' a b c d : Int} (h : 1 ≤ g) (h' : 1 ≤ g') : ltF ⟨g * a, g * b⟩ ⟨g' * c, g' * d⟩ = ltF ⟨a, b⟩ ⟨c, d⟩ := by
  unfold ltF
  have e1 : g * a * (g' * d) = g * g' * (a * d) := by simp [Int.mul_comm, Int.mul_left_comm]
  have e2 : g' * c * (g * b) = g * g' * (c * b) := by simp [Int.mul_comm, Int.mul_left_comm]
  have hp : 0 < g * g' := Int.mul_pos (by omega) (by omega)
  simp only [e1, e2, decide_eq_decide]
  exact ⟨fun k => Int.lt_of_mul_lt_mul_left k (by omega), fun k => Int.mul_lt_mul_of_pos_left k hp⟩
theorem ltF_red {x y : Frac} (hx : 1 ≤ x.Den) (hy : 1 ≤ y.Den) : ltF (red x) (red y) = ltF x y := by
  obtain ⟨g, h1, _, h2, h3, _⟩ := red_spec hx
  obtain ⟨g', k1, _, k2, k3, _⟩ := red_spec hy
  have := ltF_scale (a := (red x).Num) (b := (red x).Den) (c := (red y).Num) (d := (red y).Den) h1 k1
  rw [← h2, ← h3, ← k2, ← k3] at this
  exact this.symm
/-- reduced numbers are no greater -/
theorem red_ok {x : Frac} (h : FracOk x) : FracOk (red x) := by
  obtain ⟨⟨h1, h2⟩, h3, h4⟩ := h
  obtain ⟨g, k1, _, k2, k3, k4⟩ := red_spec h1
  refine ⟨⟨k4, ?_⟩, ?_, ?_⟩
  · have := Int.mul_le_mul_of_nonneg_right k1 (show 0 ≤ (red x).Den by omega)
    omega
  · rcases Int.lt_or_le (red x).Num 0 with h | h
    · have := Int.mul_le_mul_of_nonneg_right k1 (show 0 ≤ -(red x).Num by omega)
      rw [Int.mul_neg, Int.mul_neg] at this
      omega
    · omega
  · rcases Int.lt_or_le (red x).Num 0 with h | h
    · omega
    · have := Int.mul_le_mul_of_nonneg_right k1 h
      omega
theorem gcd_abs (a b : Int) (hb : 0 ≤ b) : (Nat.gcd a.natAbs b.toNat : Nat) = Int.gcd a b := by
  unfold Int.gcd
  congr 1
  omega
theorem p_gcd {n : Nat} (hn : 100000000 ≤ n) {x : Frac} (h : FracOk x) (step : Int × Int → Option ((Int × Int) ⊕ Int)) (h0 : ∀ a, step (a, 0) = some (.inr a)) (hs : ∀ a b, b ≠ 0 → step (a, b) = some (.inl (b, a.tmod b))) :
    loopO n step (max x.Num (w64 (-x.Num)), x.Den) = some ((Int.gcd x.Num x.Den : Nat) : Int) := by
  obtain ⟨⟨h1, h2⟩, h3, h4⟩ := h
  have e : max x.Num (w64 (-x.Num)) = (x.Num.natAbs : Int) := by rw [w64_id (by omega) (by omega)]; omega
  have e2 : x.Den = (x.Den.toNat : Int) := by omega
  rw [e]
  conv => lhs; arg 3; rw [e2]
  rw [loop_gcd h0 hs x.Den.toNat x.Num.natAbs n (by omega), gcd_abs _ _ (by omega)]
theorem red_w {x : Frac} (h : FracOk x) : w64 (x.Num.tdiv (Int.gcd x.Num x.Den : Nat)) = (red x).Num ∧ w64 (x.Den.tdiv (Int.gcd x.Num x.Den : Nat)) = (red x).Den ∧ nz ((Int.gcd x.Num x.Den : Nat) : Int) = some () := by
  obtain ⟨⟨h1, h2⟩, h3, h4⟩ := red_ok h
  obtain ⟨g, k1, k2, _⟩ := red_spec h.1.1
  refine ⟨w64_id (n := (red x).Num) (by omega) (by omega), w64_id (n := (red x).Den) (by omega) (by omega), ?_⟩
  unfold nz; rw [if_neg (by omega)]
theorem p_reduced {n : Nat} (hn : 100000000 ≤ n) {x : Frac} (h : FracOk x) : F_frames_reduced n x = some (red x) := by
  have := p_gcd hn h (F_frames_reduced_s1 n) (fun a => by simp [F_frames_reduced_s1]) (fun a b hb => by
    have hz : nz b = some () := by unfold nz; rw [if_neg hb]
    simp [F_frames_reduced_s1, hb, hz])
  obtain ⟨h1, h2, h3⟩ := red_w h
  simp only [F_frames_reduced, this, Option.bind_some, h1, h2, h3]
end Go.Proofs.Yteihdclpiekmaaa
end
section
namespace Go.Proofs.Yteihdclpiekmaaa
open Go Go.RowKit Go.Dec
set_option linter.unusedVariables false
def bindsP (d : Int) (e : Frac) (x : frames_sides) : Bool := d == 0 || !ltF (cosF d x) ⟨e.Den - e.Num, e.Den⟩ || !ltF ⟨-(e.Den - e.Num), e.Den⟩ (cosF d x)
def knownI (so all : Nat) : Int := if (so : Int) == (all : Int) then 1 else if (so : Int) == 0 then 2 else 3
def K (s : Section) (p : frames_sides → Bool) : Int := knownI ((sidesL s).countP p) (sidesL s).length
def secAt (f : Frame) (i : Nat) : Section := (f.Sections[i]?).getD ⟨⟨0, 0⟩, ⟨0, 0⟩, 0, ⟨0, 0⟩⟩
def bindsI (f : Frame) (i : Nat) (r : Int) : Int := K (secAt f i) (bindsP (dist f i r) f.Ease)
def posL (f : Frame) : List Int := down f.High f.Low
def stuckP (f : Frame) (i : Nat) (x : frames_sides) : Bool := (posL f).any fun r => bindsP (dist f i r) f.Ease x
def stuckI (f : Frame) (i : Nat) : Int := K (secAt f i) (stuckP f i)
def opensI (f : Frame) : Int := bif (List.range f.Sections.length).any (fun i => stuckI f i == 1) then 2 else bif (List.range f.Sections.length).any (fun i => stuckI f i == 3) then 3 else 1
def opensT (f : Frame) : Int × Int := if okF f = true then (opensI f, 0) else (0, 10)
def askT (f : Frame) (sec r : Int) : Int := if okF f = true then (if (wi sec 0 ((f.Sections.length : Int) - 1) && wi r f.Low f.High) = true then 0 else 1) else 10
def bindsT (f : Frame) (sec r : Int) : Int × Int := if askT f sec r = 0 then (bindsI f sec.toNat r, 0) else (0, askT f sec r)
def lowF (d : Int) : List frames_sides → Frac
  | [] => ⟨0, 0⟩
  | a :: l => l.foldl (fun m x => if ltF (cosF d x) m = true then cosF d x else m) (cosF d a)
def highF (d : Int) : List frames_sides → Frac
  | [] => ⟨0, 0⟩
  | a :: l => l.foldl (fun m x => if ltF m (cosF d x) = true then cosF d x else m) (cosF d a)
def cosineT (f : Frame) (sec r : Int) : Frac × Frac × Int :=
  if askT f sec r = 0 then (if dist f sec.toNat r = 0 then (⟨0, 0⟩, ⟨0, 0⟩, 3) else (red (lowF (dist f sec.toNat r) (sidesL (secAt f sec.toNat))), red (highF (dist f sec.toNat r) (sidesL (secAt f sec.toNat))), 0)) else (⟨0, 0⟩, ⟨0, 0⟩, askT f sec r)
theorem secAt_get {f : Frame} {i : Nat} (h : i < f.Sections.length) : f.Sections[i]? = some (secAt f i) := by simp [secAt, h]
theorem secAt_mem {f : Frame} {i : Nat} (h : i < f.Sections.length) : secAt f i ∈ f.Sections := List.mem_of_getElem? (secAt_get h)
theorem askT_ok {f : Frame} {sec r : Int} (h : askT f sec r = 0) : FOk f ∧ (sec = (sec.toNat : Int) ∧ sec.toNat < f.Sections.length) ∧ f.Low ≤ r ∧ r ≤ f.High := by
  unfold askT at h
  by_cases ho : okF f = true
  · rw [if_pos ho] at h
    by_cases hc : (wi sec 0 ((f.Sections.length : Int) - 1) && wi r f.Low f.High) = true
    · simp only [Bool.and_eq_true, wi_t] at hc
      exact ⟨okF_iff.1 ho, ⟨by omega, by omega⟩, hc.2⟩
    · rw [if_neg hc] at h; cases h
  · rw [if_neg ho] at h; cases h
theorem low_ok {d : Int} (hd : 1 ≤ d ∧ d ≤ 6000) : ∀ (l : List frames_sides), (∀ x ∈ l, XOk x) → l ≠ [] → FracOk (lowF d l) ∧ FracOk (highF d l)
  | [], _, h => absurd rfl h
  | a :: l, hx, _ => by
    have ha := (cos_ok hd (hx a (List.mem_cons_self ..))).1
    have key : ∀ (l : List frames_sides) (m m' : Frac), (∀ x ∈ l, XOk x) → FracOk m → FracOk m' → FracOk (l.foldl (fun m x => if ltF (cosF d x) m = true then cosF d x else m) m) ∧ FracOk (l.foldl (fun m x => if ltF m (cosF d x) = true then cosF d x else m) m') := by
      intro l
      induction l with
      | nil => intro m m' _ h1 h2; exact ⟨h1, h2⟩
      | cons b l ih =>
        intro m m' hx h1 h2
        have hb := (cos_ok hd (hx b (List.mem_cons_self ..))).1
        simp only [List.foldl_cons]
        exact ih _ _ (fun x h => hx x (List.mem_cons_of_mem _ h)) (by split <;> assumption) (by split <;> assumption)
    exact key l _ _ (fun x h => hx x (List.mem_cons_of_mem _ h)) ha ha
theorem sides_ne {s : Section} (hs : SecOk s) : sidesL s ≠ [] := fun e => by
  have := hs.a; have := hs.b
  have : (⟨s.Arm.Low, s.Stretch.Low⟩ : frames_sides) ∈ sidesL s := sides_mem.2 ⟨by simp only; omega, by simp only; omega⟩
  rw [e] at this; cases this
theorem span_len7 {a b : Int} (h : b - a ≤ 6) : (span a b).length ≤ 7 := by rw [span_len]; omega
theorem flatMap_len' {α β : Type} (f : α → List β) (m : Nat) : ∀ (l : List α), (∀ x ∈ l, (f x).length ≤ m) → (l.flatMap f).length ≤ l.length * m
  | [], _ => by simp
  | a :: l, h => by
    rw [List.flatMap_cons, List.length_append, List.length_cons, Nat.succ_mul]
    have h1 := h a (List.mem_cons_self ..)
    have h2 := flatMap_len' f m l (fun x hx => h x (List.mem_cons_of_mem _ hx))
    omega
theorem sides_len {s : Section} (hs : SecOk s) : (sidesL s).length ≤ 49 := by
  have h := flatMap_len' (fun a => (span s.Stretch.Low s.Stretch.High).map fun b => (⟨a, b⟩ : frames_sides)) 7 (span s.Arm.Low s.Arm.High) (fun x _ => by rw [List.length_map]; exact span_len7 hs.b.2.2.2)
  have h2 := span_len7 hs.a.2.2.2
  have h3 : (sidesL s).length = ((span s.Arm.Low s.Arm.High).flatMap fun a => (span s.Stretch.Low s.Stretch.High).map fun b => (⟨a, b⟩ : frames_sides)).length := rfl
  rw [h3]
  omega
theorem p_sbinds (n : Nat) {d : Int} (hd : 0 ≤ d ∧ d ≤ 6000) {x : frames_sides} (hx : XOk x) {e : Frac} (he : 1 ≤ e.Den ∧ e.Den ≤ 20 ∧ 0 ≤ e.Num ∧ e.Num ≤ e.Den) : F_frames_sides_binds n x d e = some (bindsP d e x) := by
  simp only [F_frames_sides_binds]
  by_cases h0 : d = 0
  · subst h0; simp [bindsP]
  · have hc := (cos_ok (d := d) (by omega) hx).1
    obtain ⟨⟨c1, c2⟩, c3, c4⟩ := hc
    rw [if_neg (by simpa using h0), p_cosine n (by omega) hx, w64_id (n := e.Den - e.Num) (by omega) (by omega), w64_id (n := -(e.Den - e.Num)) (by omega) (by omega)]
    simp only [Option.bind_some]
    rw [p_compare n ⟨c3, c4, by omega, c2⟩ (by simp only; omega), p_compare n ⟨c3, c4, by omega, c2⟩ (by simp only; omega)]
    simp only [Option.bind_some, or_br]
    have e1 : decide (0 ≤ cmpF (cosF d x) ⟨e.Den - e.Num, e.Den⟩) = !ltF (cosF d x) ⟨e.Den - e.Num, e.Den⟩ := by
      rw [Bool.eq_iff_iff]; simp only [decide_eq_true_eq, Bool.not_eq_true', ← Bool.not_eq_true, ← cmp_lt]; omega
    have e2 : decide (cmpF (cosF d x) ⟨-(e.Den - e.Num), e.Den⟩ ≤ 0) = !ltF ⟨-(e.Den - e.Num), e.Den⟩ (cosF d x) := by
      rw [Bool.eq_iff_iff]; simp only [decide_eq_true_eq, Bool.not_eq_true', ← Bool.not_eq_true, ← cmp_gt]; omega
    have e3 : (d == 0) = false := by simpa using h0
    rw [e1, e2]
    simp only [bindsP, e3, Bool.false_or]
section
variable {n : Nat} (hn : 100000000 ≤ n)
include hn
theorem p_truths {s : Section} (hs : SecOk s) {σ ρ : Type} (cs : σ → frames_sides → Option (σ ⊕ ρ)) (st : σ) : I_frames_truths_1 n s cs st = foldO cs st (sidesL s) := by
  have ha := hs.a; have hb := hs.b
  have inner : ∀ (a : Int) (st : σ), loopO n (I_frames_truths_1_s2 s a cs) (s.Stretch.Low, st) = foldO cs st ((span s.Stretch.Low s.Stretch.High).map fun b => (⟨a, b⟩ : frames_sides)) := fun a st => by
    rw [foldO_map]
    refine loop_up (fun st b => cs st ⟨a, b⟩) _ _ _ _ rfl (fun b st h1 h2 => ?_) (fun b st h1 h2 => ?_) (by omega)
    · simp only [I_frames_truths_1_s2]
      rw [if_pos (by simpa using h2), w64_id (by omega) (by omega)]
      rfl
    · simp only [I_frames_truths_1_s2]
      rw [if_neg (by simp; omega)]
  unfold I_frames_truths_1
  rw [show sidesL s = (span s.Arm.Low s.Arm.High).flatMap fun a => (span s.Stretch.Low s.Stretch.High).map fun b => (⟨a, b⟩ : frames_sides) from rfl, foldO_flatMap]
  refine loop_up (fun st a => foldO cs st ((span s.Stretch.Low s.Stretch.High).map fun b => (⟨a, b⟩ : frames_sides))) _ _ _ _ rfl (fun b st h1 h2 => ?_) (fun b st h1 h2 => ?_) (by omega)
  · simp only [I_frames_truths_1_s1]
    rw [if_pos (by simpa using h2), inner, w64_id (by omega) (by omega)]
    rfl
  · simp only [I_frames_truths_1_s1]
    rw [if_neg (by simp; omega)]
theorem p_positions {f : Frame} (hf : FOk f) {σ ρ : Type} (cs : σ → Int → Option (σ ⊕ ρ)) (st : σ) : I_frames_positions_1 n f cs st = foldO cs st (posL f) := by
  have hr := hf.r
  unfold I_frames_positions_1 posL
  refine loop_down cs _ _ _ _ rfl (fun b st h1 h2 => ?_) (fun b st h1 h2 => ?_) (by omega)
  · simp only [I_frames_positions_1_s]
    rw [if_pos (by simpa using h1), w64_id (by omega) (by omega)]
    rfl
  · simp only [I_frames_positions_1_s]
    rw [if_neg (by simp; omega)]
theorem p_known {s : Section} (hs : SecOk s) (is : frames_sides → Option Bool) (p : frames_sides → Bool) (h : ∀ x ∈ sidesL s, is x = some (p x)) : F_frames_known n s is = some (K s p) := by
  have hl := sides_len hs
  simp only [F_frames_known, F_frames_truths, Option.bind_some, p_truths hn hs]
  obtain ⟨k1, k2⟩ := foldO_foldl (ρ := Unit) (cs := F_frames_known_s1 n is) (fun (z : Int × Int) x => (z.1 + 1, if p x = true then z.2 + 1 else z.2)) (fun i z => z.1 = i ∧ 0 ≤ z.2 ∧ z.2 ≤ i) (sidesL s) 0 (0, 0) (by simp) (fun i z x hi hx hz => by
    refine ⟨?_, by simp only; omega, ?_⟩
    · simp only [F_frames_known_s1, h x hx, Option.bind_some]
      rw [w64_id (n := z.1 + 1) (by omega) (by omega), w64_id (n := z.2 + 1) (by omega) (by omega)]
      cases p x <;> rfl
    · simp only; split <;> omega)
  rw [k1, foldl_pair (fun (a : Int) x => a + 1) (fun (b : Int) x => if p x = true then b + 1 else b), foldl_count]
  have e : (sidesL s).foldl (fun (a : Int) x => a + 1) 0 = ((sidesL s).length : Int) := by
    have := foldl_count (fun _ => true) (sidesL s) 0
    simp only [if_true, Int.zero_add] at this
    rw [this]; simp
  rw [e]
  simp only [Option.bind_some, some_br, K, knownI, Int.zero_add]
theorem p_binds {f : Frame} (hf : FOk f) {i : Nat} (hi : i < f.Sections.length) {r : Int} (hr : f.Low ≤ r ∧ r ≤ f.High) : F_frames_binds n f i r = some (bindsI f i r) := by
  have hrr := hf.r
  have hs := hf.s _ (secAt_mem hi)
  have hd := dist_in hf (r := r) (by omega) i
  simp only [F_frames_binds, p_distance hn hf hi (r := r) (by omega), Option.bind_some, geti_nat, secAt_get hi]
  rw [p_known hn hs _ (bindsP (dist f i r) f.Ease) (fun x hx => by
    simp only [F_frames_binds_1, p_sbinds n hd (sides_ok hs hx) hf.e, Option.bind_some])]
  rfl
theorem p_stuck {f : Frame} (hf : FOk f) {i : Nat} (hi : i < f.Sections.length) : F_frames_stuck n f i = some (stuckI f i) := by
  have hrr := hf.r
  have hs := hf.s _ (secAt_mem hi)
  simp only [F_frames_stuck, geti_nat, secAt_get hi, Option.bind_some]
  rw [p_known hn hs _ (stuckP f i) (fun x hx => by
    simp only [F_frames_stuck_1, F_frames_positions, Option.bind_some, p_positions hn hf]
    rw [foldO_any (fun r => bindsP (dist f i r) f.Ease x) true (posL f) (fun r hr => by
      have hr' := down_mem.1 hr
      simp only [F_frames_stuck_1_s1, p_distance hn hf hi (r := r) (by omega), Option.bind_some, p_sbinds n (dist_in hf (r := r) (by omega) i) (sides_ok hs hx) hf.e]
      cases bindsP (dist f i r) f.Ease x <;> rfl)]
    unfold stuckP
    cases (posL f).any fun r => bindsP (dist f i r) f.Ease x <;> rfl)]
  rfl
theorem p_ask {f : Frame} (hl : f.Sections.length ≤ 1000) (sec r : Int) : F_frames_ask n f sec r = some (askT f sec r) := by
  simp only [F_frames_ask, p_Check hn hl, p_within, Option.bind_some, or_br, askT]
  by_cases ho : okF f = true
  · simp only [ho, if_true]
    rw [w64_id (by omega) (by omega)]
    cases wi sec 0 ((f.Sections.length : Int) - 1) <;> cases wi r f.Low f.High <;> rfl
  · simp [ho]
theorem p_Binds {f : Frame} (hl : f.Sections.length ≤ 1000) (sec r : Int) : F_frames_Binds n f sec r = some (bindsT f sec r) := by
  simp only [F_frames_Binds, p_ask hn hl, Option.bind_some, bindsT]
  by_cases h : askT f sec r = 0
  · obtain ⟨h1, ⟨h2, h3⟩, h4⟩ := askT_ok h
    have e := p_binds hn h1 h3 h4
    rw [← h2] at e
    simp [h, e]
  · simp [h]
theorem p_Opens {f : Frame} (hl : f.Sections.length ≤ 1000) : F_frames_Opens n f = some (opensT f) := by
  simp only [F_frames_Opens, p_Check hn hl, Option.bind_some, opensT]
  by_cases ho : okF f = true
  · have hf := okF_iff.1 ho
    have := loop_walk (step := F_frames_Opens_s1 n f) (List.range f.Sections.length) (fun i out => (out, (i : Int))) (fun (out : Int) (i : Nat) => (some (bif stuckI f i == 1 then .inr (2, 0) else .inl (bif stuckI f i == 3 then 3 else out)) : Option (Int ⊕ (Int × Int)))) (fun out => .inr out) (fun e => .inl e) (n := n) (fun i x b hx => by
      have hi : i < f.Sections.length := by have := (List.getElem?_eq_some_iff.1 hx).1; simpa using this
      have hxi : x = i := by rw [List.getElem?_range hi] at hx; exact (Option.some.inj hx).symm
      subst hxi
      simp only [F_frames_Opens_s1, lt_nat, hi, decide_true, if_true, p_stuck hn hf hi, Option.bind_some, w64_nat (show x ≤ 4611686018427387904 by omega), some_br]
      cases (stuckI f x == 1) <;> cases (stuckI f x == 3) <;> rfl) (fun b => by simp [F_frames_Opens_s1]) (by simp; omega) 1
    simp only [Int.natCast_zero] at this
    rw [foldO_two (fun i => stuckI f i == 1) (fun i => stuckI f i == 3) (2, 0) 3 _ _ (fun s x _ => rfl)] at this
    simp only [ho, if_true, bne_self_eq_false, Bool.false_eq_true, if_false, this, Option.bind_some]
    unfold opensI
    cases (List.range f.Sections.length).any (fun i => stuckI f i == 1) <;> cases (List.range f.Sections.length).any (fun i => stuckI f i == 3) <;> rfl
  · simp [ho]
theorem p_Cosine {f : Frame} (hl : f.Sections.length ≤ 1000) (sec r : Int) : F_frames_Cosine n f sec r = some (cosineT f sec r) := by
  simp only [F_frames_Cosine, p_ask hn hl, Option.bind_some, cosineT]
  by_cases h : askT f sec r = 0
  · obtain ⟨h1, ⟨h2, h3⟩, h4⟩ := askT_ok h
    have hr := h1.r
    have hs := h1.s _ (secAt_mem h3)
    have e := p_distance hn h1 h3 (r := r) (by omega)
    rw [← h2] at e
    have hd := dist_in h1 (r := r) (by omega) sec.toNat
    have e2 : geti f.Sections sec = some (secAt f sec.toNat) := by
      have := secAt_get h3
      rw [← geti_nat, ← h2] at this
      exact this
    simp only [h, bne_self_eq_false, Bool.false_eq_true, if_false, if_true, e, Option.bind_some]
    by_cases h0 : dist f sec.toNat r = 0
    · simp [h0]
    · have h0' : (dist f sec.toNat r == 0) = false := by simpa using h0
      simp only [h0', Bool.false_eq_true, if_false, h0, e2, Option.bind_some, F_frames_truths, p_truths hn hs]
      generalize dist f sec.toNat r = d at *
      have hd' : 1 ≤ d ∧ d ≤ 6000 := by omega
      have hx : ∀ x ∈ sidesL (secAt f sec.toNat), XOk x := fun x hx => sides_ok hs hx
      have hne := sides_ne hs
      generalize sidesL (secAt f sec.toNat) = l at *
      cases l with
      | nil => exact absurd rfl hne
      | cons a tl =>
        obtain ⟨⟨⟨c1, c2⟩, c3, c4⟩, _⟩ := cos_ok hd' (hx a (List.mem_cons_self ..))
        have s0 : F_frames_Cosine_s1 n d (0, 0, 0, 0) a = some (.inl ((cosF d a).Num, (cosF d a).Den, (cosF d a).Num, (cosF d a).Den)) := by
          simp [F_frames_Cosine_s1, p_cosine n hd' (hx a (List.mem_cons_self ..))]
        obtain ⟨k1, k2⟩ := foldO_foldl (ρ := Unit) (cs := F_frames_Cosine_s1 n d) (fun (z : Int × Int × Int × Int) x => ((if ltF ⟨z.1, z.2.1⟩ (cosF d x) = true then (cosF d x).Num else z.1), (if ltF ⟨z.1, z.2.1⟩ (cosF d x) = true then (cosF d x).Den else z.2.1), (if ltF (cosF d x) ⟨z.2.2.1, z.2.2.2⟩ = true then (cosF d x).Num else z.2.2.1), (if ltF (cosF d x) ⟨z.2.2.1, z.2.2.2⟩ = true then (cosF d x).Den else z.2.2.2))) (fun i z => FracOk ⟨z.1, z.2.1⟩ ∧ FracOk ⟨z.2.2.1, z.2.2.2⟩) tl 0 ((cosF d a).Num, (cosF d a).Den, (cosF d a).Num, (cosF d a).Den) ⟨⟨⟨c1, c2⟩, c3, c4⟩, ⟨⟨c1, c2⟩, c3, c4⟩⟩ (fun i z x _ hxm hz => by
          have hxo := hx x (List.mem_cons_of_mem _ hxm)
          obtain ⟨⟨b1, b2⟩, b3, b4⟩ := (cos_ok hd' hxo).1
          obtain ⟨z1, z2, z3, z4⟩ := z
          obtain ⟨⟨⟨q1, q2⟩, q3, q4⟩, ⟨w1, w2⟩, w3, w4⟩ := hz
          simp only at q1 q2 q3 q4 w1 w2 w3 w4
          refine ⟨?_, ?_⟩
          · have n2 : (z2 == 0) = false := by simp; omega
            have n4 : (z4 == 0) = false := by simp; omega
            have e5 : decide (cmpF (cosF d x) ⟨z3, z4⟩ < 0) = ltF (cosF d x) ⟨z3, z4⟩ := by
              rw [Bool.eq_iff_iff]; simp only [decide_eq_true_eq, cmp_lt]
            have e6 : decide (0 < cmpF (cosF d x) ⟨z1, z2⟩) = ltF ⟨z1, z2⟩ (cosF d x) := by
              rw [Bool.eq_iff_iff]; simp only [decide_eq_true_eq, cmp_gt]
            simp only [F_frames_Cosine_s1, p_cosine n hd' hxo, Option.bind_some, n2, n4, Bool.false_eq_true, if_false, p_compare n ⟨b3, b4, by omega, b2⟩ (show -40000000 ≤ (Frac.mk z3 z4).Num ∧ (Frac.mk z3 z4).Num ≤ 40000000 ∧ 0 ≤ (Frac.mk z3 z4).Den ∧ (Frac.mk z3 z4).Den ≤ 24000000 by simp only; omega), p_compare n ⟨b3, b4, by omega, b2⟩ (show -40000000 ≤ (Frac.mk z1 z2).Num ∧ (Frac.mk z1 z2).Num ≤ 40000000 ∧ 0 ≤ (Frac.mk z1 z2).Den ∧ (Frac.mk z1 z2).Den ≤ 24000000 by simp only; omega), e5, e6]
            cases ltF (cosF d x) ⟨z3, z4⟩ <;> cases ltF ⟨z1, z2⟩ (cosF d x) <;> rfl
          · constructor
            · simp only
              cases ltF ⟨z1, z2⟩ (cosF d x)
              · exact ⟨⟨q1, q2⟩, q3, q4⟩
              · exact ⟨⟨b1, b2⟩, b3, b4⟩
            · simp only
              cases ltF (cosF d x) ⟨z3, z4⟩
              · exact ⟨⟨w1, w2⟩, w3, w4⟩
              · exact ⟨⟨b1, b2⟩, b3, b4⟩)
        have key : ∀ (tl : List frames_sides) (h l : Frac), tl.foldl (fun (z : Int × Int × Int × Int) x => ((if ltF ⟨z.1, z.2.1⟩ (cosF d x) = true then (cosF d x).Num else z.1), (if ltF ⟨z.1, z.2.1⟩ (cosF d x) = true then (cosF d x).Den else z.2.1), (if ltF (cosF d x) ⟨z.2.2.1, z.2.2.2⟩ = true then (cosF d x).Num else z.2.2.1), (if ltF (cosF d x) ⟨z.2.2.1, z.2.2.2⟩ = true then (cosF d x).Den else z.2.2.2))) (h.Num, h.Den, l.Num, l.Den) =
            ((tl.foldl (fun m x => if ltF m (cosF d x) = true then cosF d x else m) h).Num, (tl.foldl (fun m x => if ltF m (cosF d x) = true then cosF d x else m) h).Den, (tl.foldl (fun m x => if ltF (cosF d x) m = true then cosF d x else m) l).Num, (tl.foldl (fun m x => if ltF (cosF d x) m = true then cosF d x else m) l).Den) := by
          intro tl
          induction tl with
          | nil => intro h l; rfl
          | cons b tl ih =>
            intro h l
            simp only [List.foldl_cons]
            rw [← ih]
            congr 1
            cases ltF h (cosF d b) <;> cases ltF (cosF d b) l <;> rfl
        rw [foldO, s0]
        simp only [Option.bind_some]
        rw [k1, key]
        have hlo := low_ok hd' (a :: tl) hx (by simp)
        have e7 : tl.foldl (fun m x => if ltF m (cosF d x) = true then cosF d x else m) (cosF d a) = highF d (a :: tl) := rfl
        have e8 : tl.foldl (fun m x => if ltF (cosF d x) m = true then cosF d x else m) (cosF d a) = lowF d (a :: tl) := rfl
        rw [e7, e8]
        simp only [Option.bind_some, p_reduced hn hlo.1, p_reduced hn hlo.2]
  · simp [h]
end
end Go.Proofs.Yteihdclpiekmaaa
end
section
namespace Go.Proofs.Yteihdclpiekmaaa
open Go Go.RowKit Go.Dec
set_option linter.unusedVariables false
theorem knownI_one {so all : Nat} : knownI so all = 1 ↔ so = all := by
  unfold knownI
  by_cases h : so = all
  · subst h; simp
  · have : ((so : Int) == (all : Int)) = false := by simp; omega
    rw [this]
    by_cases h0 : so = 0
    · subst h0; simp [h]
    · have : ((so : Int) == 0) = false := by simp; omega
      rw [this]; simp [h]
theorem knownI_two {so all : Nat} (h1 : 1 ≤ all) : knownI so all = 2 ↔ so = 0 := by
  unfold knownI
  by_cases h : so = all
  · have : ((so : Int) == (all : Int)) = true := by simp; omega
    rw [this]; simp; omega
  · have : ((so : Int) == (all : Int)) = false := by simp; omega
    rw [this]
    by_cases h0 : so = 0
    · subst h0; simp
    · have : ((so : Int) == 0) = false := by simp; omega
      rw [this]; simp [h0]
theorem knownI_mem {so all : Nat} : knownI so all = 1 ∨ knownI so all = 2 ∨ knownI so all = 3 := by
  unfold knownI; split
  · exact .inl rfl
  · split
    · exact .inr (.inl rfl)
    · exact .inr (.inr rfl)
theorem sides_pos {s : Section} (hs : SecOk s) : 1 ≤ (sidesL s).length := by
  have := sides_ne hs
  cases h : sidesL s with
  | nil => exact absurd h this
  | cons a l => simp
theorem p_Less (n : Nat) {x y : Frac} (h1 : -40000000 ≤ x.Num ∧ x.Num ≤ 40000000 ∧ 0 ≤ x.Den ∧ x.Den ≤ 24000000) (h2 : -40000000 ≤ y.Num ∧ y.Num ≤ 40000000 ∧ 0 ≤ y.Den ∧ y.Den ≤ 24000000) : F_ref01_Less n x y = some (ltF x y) := by
  have a := mul_abs h1.1 h1.2.1 h2.2.2.1 h2.2.2.2
  have b := mul_abs h2.1 h2.2.1 h1.2.2.1 h1.2.2.2
  simp only [F_ref01_Less, ltF]
  rw [w64_id (n := x.Num * y.Den) (by omega) (by omega), w64_id (n := y.Num * x.Den) (by omega) (by omega)]
theorem p_within01 (n : Nat) (a b c : Int) : F_ref01_Within n a b c = some (wi a b c) := rfl
theorem frac_b {x : Frac} (h : FracOk x) : -40000000 ≤ x.Num ∧ x.Num ≤ 40000000 ∧ 0 ≤ x.Den ∧ x.Den ≤ 24000000 := ⟨h.2.1, h.2.2, by have := h.1.1; omega, h.1.2⟩
section
variable {n : Nat} (hn : 100000000 ≤ n)
include hn
theorem p_Check01 {f : Frame} (hl : f.Sections.length ≤ 1000) : F_ref01_Check n f = some (if okF f = true then 0 else 10) := by
  have h1 := loop_all_l (step := F_ref01_Check_s1 n f) f.Sections okSec (10 : Int) (n := n) (by omega) (fun i x hx hi => by
    simp only [F_ref01_Check_s1, F_ref01_isLong, F_ref01_isShare, geti_nat, hx, Option.bind_some, p_within01, and_br, or_br, lt_nat, hi, decide_true, if_true, w64_nat (show i ≤ 4611686018427387904 by omega)]
    have e : (!(wi x.Arm.Low 1 x.Arm.High && decide (x.Arm.High ≤ 2000) && decide (w64 (x.Arm.High - x.Arm.Low) ≤ 6)) || !(wi x.Stretch.Low 1 x.Stretch.High && decide (x.Stretch.High ≤ 2000) && decide (w64 (x.Stretch.High - x.Stretch.Low) ≤ 6)) || !wi x.Base 0 2000 || !(wi x.Gear.Den 1 20 && wi x.Gear.Num 0 x.Gear.Den)) = !okSec x := by
      simp only [okSec, okSpan, okShare, Bool.not_and, Bool.or_assoc]
    rw [e]
    cases okSec x <;> rfl) (by simp [F_ref01_Check_s1]) (by omega)
  simp only [F_ref01_Check, h1, Option.bind_some]
  cases ha : f.Sections.all okSec with
  | false =>
    have : okF f = false := by simp [okF, ha]
    rw [this]; rfl
  | true =>
    simp only [cond_true, F_ref01_isShare, p_within01, Option.bind_some, and_br, or_br]
    have e : (!wi f.Sections.length 1 3 || !wi f.Low 1 f.High || decide (2000 < f.High) || decide (200 < w64 (f.High - f.Low)) || !(wi f.Ease.Den 1 20 && wi f.Ease.Num 0 f.Ease.Den) || !wi f.Rod 0 4000 || !wi f.Case 0 4000) = !okF f := by
      simp only [okF, okShare, ha, Bool.not_and, Bool.or_assoc, Bool.not_true, Bool.false_or, ← decide_not, Int.not_le]
    rw [e]
    cases okF f <;> rfl
theorem p_IsSection {f : Frame} (hl : f.Sections.length ≤ 1000) (sec : Int) : F_ref01_IsSection n f sec = some (wi sec 0 ((f.Sections.length : Int) - 1)) := by
  have _hn := hn
  simp only [F_ref01_IsSection, p_within01, Option.bind_some]
  rw [w64_id (by omega) (by omega)]
end
end Go.Proofs.Yteihdclpiekmaaa
end
section
namespace Go.Proofs.Yteihdclpiekmaaa
open Go Go.RowKit Go.Dec
set_option linter.unusedVariables false
section
variable {n : Nat} (hn : 100000000 ≤ n)
include hn
theorem p_Copy01 {f : Frame} (hl : f.Sections.length ≤ 1000) : F_ref01_Copy n f = some f := by
  have _hn := hn
  simp only [F_ref01_Copy, List.nil_append]
  rw [lim_ok (by omega)]
  rfl
/-- what a statement examines -/
def Ok (f : Frame) : Prop := okF f = true ∧ f.High - f.Low < 60
theorem p_Far (f : Frame) : F_law01_Far n f = some true ∨ (F_law01_Far n f = some false ∧ f.Sections.length ≤ 40 ∧ (okF f = true → Ok f)) := by
  simp only [F_law01_Far]
  by_cases h : f.Sections.length ≤ 40
  · have e : decide (40 < (f.Sections.length : Int)) = false := by simp; omega
    rw [e]
    simp only [Bool.false_eq_true, if_false, p_Check01 hn (f := f) (by omega), Option.bind_some]
    by_cases ho : okF f = true
    · have hr := (okF_iff.1 ho).r
      rw [w64_id (by omega) (by omega)]
      by_cases hb : 60 ≤ f.High - f.Low
      · left; simp [ho, hb]
      · right
        refine ⟨by simp [ho, hb], h, fun _ => ⟨ho, by omega⟩⟩
    · right
      refine ⟨by simp [ho], h, fun h => absurd h ho⟩
  · left
    have e : decide (40 < (f.Sections.length : Int)) = true := by simp; omega
    rw [e]; rfl
end
end Go.Proofs.Yteihdclpiekmaaa
end
section
namespace Go.Proofs.Yteihdclpiekmaaa
open Go Go.RowKit Go.Dec
set_option linter.unusedVariables false
/-- x ≥ y, y ≥ z: x ≥ z -/
theorem ltF_trans {x y z : Frac} (hx : 1 ≤ x.Den) (hy : 1 ≤ y.Den) (hz : 1 ≤ z.Den) (h1 : ltF x y = false) (h2 : ltF y z = false) : ltF x z = false := by
  simp only [ltF, decide_eq_false_iff_not, Int.not_lt] at *
  have a := Int.mul_le_mul_of_nonneg_right h1 (show 0 ≤ z.Den by omega)
  have b := Int.mul_le_mul_of_nonneg_right h2 (show 0 ≤ x.Den by omega)
  have e1 : y.Num * x.Den * z.Den = y.Num * z.Den * x.Den := by rw [Int.mul_assoc, Int.mul_comm x.Den, ← Int.mul_assoc]
  have e2 : z.Num * y.Den * x.Den = z.Num * x.Den * y.Den := by rw [Int.mul_assoc, Int.mul_comm y.Den, ← Int.mul_assoc]
  have e3 : x.Num * y.Den * z.Den = x.Num * z.Den * y.Den := by rw [Int.mul_assoc, Int.mul_comm y.Den, ← Int.mul_assoc]
  rw [e1, e3] at a
  rw [e2] at b
  exact Int.le_of_mul_le_mul_right (Int.le_trans b a) (by omega)
theorem ltF_irrefl (x : Frac) : ltF x x = false := by simp [ltF]
theorem ltF_asymm {x y : Frac} (h : ltF x y = true) : ltF y x = false := by
  simp only [ltF, decide_eq_true_eq, decide_eq_false_iff_not] at *; omega
/-- the least and the greatest cosine -/
theorem low_spec {d : Int} (hd : 1 ≤ d ∧ d ≤ 6000) : ∀ (l : List frames_sides), (∀ x ∈ l, XOk x) → l ≠ [] →
    ((∃ x ∈ l, lowF d l = cosF d x) ∧ ∀ x ∈ l, ltF (cosF d x) (lowF d l) = false) ∧ ((∃ x ∈ l, highF d l = cosF d x) ∧ ∀ x ∈ l, ltF (highF d l) (cosF d x) = false)
  | [], _, h => absurd rfl h
  | a :: l, hx, _ => by
    have key : ∀ (l : List frames_sides) (m m' : frames_sides), (∀ x ∈ l, XOk x) → XOk m → XOk m' →
        ((∃ x ∈ m :: l, l.foldl (fun m x => if ltF (cosF d x) m = true then cosF d x else m) (cosF d m) = cosF d x) ∧ ∀ x ∈ m :: l, ltF (cosF d x) (l.foldl (fun m x => if ltF (cosF d x) m = true then cosF d x else m) (cosF d m)) = false) ∧
        ((∃ x ∈ m' :: l, l.foldl (fun m x => if ltF m (cosF d x) = true then cosF d x else m) (cosF d m') = cosF d x) ∧ ∀ x ∈ m' :: l, ltF (l.foldl (fun m x => if ltF m (cosF d x) = true then cosF d x else m) (cosF d m')) (cosF d x) = false) := by
      intro l
      induction l with
      | nil =>
        intro m m' _ _ _
        refine ⟨⟨⟨m, by simp, rfl⟩, fun x h => ?_⟩, ⟨⟨m', by simp, rfl⟩, fun x h => ?_⟩⟩
        · simp at h; subst h; exact ltF_irrefl _
        · simp at h; subst h; exact ltF_irrefl _
      | cons b l ih =>
        intro m m' hx hm hm'
        have hb := hx b (List.mem_cons_self ..)
        simp only [List.foldl_cons]
        have e1 : (if ltF (cosF d b) (cosF d m) = true then cosF d b else cosF d m) = cosF d (if ltF (cosF d b) (cosF d m) = true then b else m) := by split <;> rfl
        have e2 : (if ltF (cosF d m') (cosF d b) = true then cosF d b else cosF d m') = cosF d (if ltF (cosF d m') (cosF d b) = true then b else m') := by split <;> rfl
        rw [e1, e2]
        obtain ⟨⟨⟨x1, hx1, q1⟩, q2⟩, ⟨x2, hx2, q3⟩, q4⟩ := ih (if ltF (cosF d b) (cosF d m) = true then b else m) (if ltF (cosF d m') (cosF d b) = true then b else m') (fun x h => hx x (List.mem_cons_of_mem _ h)) (by split <;> assumption) (by split <;> assumption)
        have hall : ∀ x ∈ b :: l, XOk x := hx
        refine ⟨⟨⟨x1, ?_, q1⟩, fun x h => ?_⟩, ⟨⟨x2, ?_, q3⟩, fun x h => ?_⟩⟩
        · rcases List.mem_cons.1 hx1 with h | h
          · rw [h]; split <;> simp
          · simp [h]
        · have h0 := q2 _ (List.mem_cons_self ..)
          have hx1' : XOk x1 := by
            rcases List.mem_cons.1 hx1 with h | h
            · rw [h]; split <;> assumption
            · exact hx x1 (List.mem_cons_of_mem _ h)
          by_cases hl : x ∈ l
          · exact q2 x (List.mem_cons_of_mem _ hl)
          · have hxo : XOk x := by
              rcases List.mem_cons.1 h with rfl | h
              · exact hm
              · exact hx x h
            have hmid : XOk (if ltF (cosF d b) (cosF d m) = true then b else m) := by split <;> assumption
            have hstep : ltF (cosF d x) (cosF d (if ltF (cosF d b) (cosF d m) = true then b else m)) = false := by
              rcases List.mem_cons.1 h with rfl | h
              · split
                · rename_i hc; exact ltF_asymm hc
                · exact ltF_irrefl _
              · rcases List.mem_cons.1 h with rfl | h
                · split
                  · exact ltF_irrefl _
                  · rename_i hc; simpa using hc
                · exact absurd h hl
            rw [q1] at h0 ⊢
            exact ltF_trans (cos_ok hd hxo).1.1.1 (cos_ok hd hmid).1.1.1 (cos_ok hd hx1').1.1.1 hstep h0
        · rcases List.mem_cons.1 hx2 with h | h
          · rw [h]; split <;> simp
          · simp [h]
        · have h0 := q4 _ (List.mem_cons_self ..)
          have hx2' : XOk x2 := by
            rcases List.mem_cons.1 hx2 with h | h
            · rw [h]; split <;> assumption
            · exact hx x2 (List.mem_cons_of_mem _ h)
          by_cases hl : x ∈ l
          · exact q4 x (List.mem_cons_of_mem _ hl)
          · have hxo : XOk x := by
              rcases List.mem_cons.1 h with rfl | h
              · exact hm'
              · exact hx x h
            have hmid : XOk (if ltF (cosF d m') (cosF d b) = true then b else m') := by split <;> assumption
            have hstep : ltF (cosF d (if ltF (cosF d m') (cosF d b) = true then b else m')) (cosF d x) = false := by
              rcases List.mem_cons.1 h with rfl | h
              · split
                · rename_i hc; exact ltF_asymm hc
                · exact ltF_irrefl _
              · rcases List.mem_cons.1 h with rfl | h
                · split
                  · exact ltF_irrefl _
                  · rename_i hc; simpa using hc
                · exact absurd h hl
            rw [q3] at h0 ⊢
            exact ltF_trans (cos_ok hd hx2').1.1.1 (cos_ok hd hmid).1.1.1 (cos_ok hd hxo).1.1.1 h0 hstep
    exact key l a a (fun x h => hx x (List.mem_cons_of_mem _ h)) (hx a (List.mem_cons_self ..)) (hx a (List.mem_cons_self ..))
theorem K_one {s : Section} {p : frames_sides → Bool} : K s p = 1 ↔ ∀ x ∈ sidesL s, p x = true := by
  unfold K; rw [knownI_one, List.countP_eq_length]
theorem K_two {s : Section} (hs : SecOk s) {p : frames_sides → Bool} : K s p = 2 ↔ ∀ x ∈ sidesL s, p x = false := by
  unfold K; rw [knownI_two (sides_pos hs), List.countP_eq_zero]
  simp
theorem K_mem (s : Section) (p : frames_sides → Bool) : K s p = 1 ∨ K s p = 2 ∨ K s p = 3 := knownI_mem
theorem any_range {q : Nat → Bool} {i k : Nat} (hi : i < k) (h : q i = true) : (List.range k).any q = true := List.any_eq_true.2 ⟨i, List.mem_range.2 hi, h⟩
theorem opens_two {f : Frame} : opensI f = 2 ↔ ∃ i, i < f.Sections.length ∧ stuckI f i = 1 := by
  unfold opensI
  cases h : (List.range f.Sections.length).any (fun i => stuckI f i == 1) with
  | true =>
    simp only [cond_true, true_iff]
    obtain ⟨i, h1, h2⟩ := List.any_eq_true.1 h
    exact ⟨i, by simpa using h1, by simpa using h2⟩
  | false =>
    have : ¬ ∃ i, i < f.Sections.length ∧ stuckI f i = 1 := fun ⟨i, h1, h2⟩ => by
      have := any_range (q := fun i => stuckI f i == 1) h1 (by simpa using h2)
      rw [h] at this; cases this
    simp only [cond_false, this, iff_false]
    cases (List.range f.Sections.length).any (fun i => stuckI f i == 3) <;> simp
theorem opens_one {f : Frame} : opensI f = 1 ↔ ∀ i, i < f.Sections.length → stuckI f i = 2 := by
  unfold opensI
  constructor
  · intro h i hi
    have m1 : stuckI f i ≠ 1 := fun e => by
      have := any_range (q := fun i => stuckI f i == 1) hi (by simpa using e)
      rw [this] at h; cases h
    have m3 : stuckI f i ≠ 3 := fun e => by
      have := any_range (q := fun i => stuckI f i == 3) hi (by simpa using e)
      rw [this] at h
      cases h1 : (List.range f.Sections.length).any (fun i => stuckI f i == 1) <;> rw [h1] at h <;> cases h
    rcases K_mem (secAt f i) (stuckP f i) with h1 | h1 | h1
    · exact absurd h1 m1
    · exact h1
    · exact absurd h1 m3
  · intro h
    have e1 : (List.range f.Sections.length).any (fun i => stuckI f i == 1) = false := by
      rw [List.any_eq_false]; intro i hi; rw [h i (by simpa using hi)]; decide
    have e3 : (List.range f.Sections.length).any (fun i => stuckI f i == 3) = false := by
      rw [List.any_eq_false]; intro i hi; rw [h i (by simpa using hi)]; decide
    rw [e1, e3]; rfl
theorem opens_mem (f : Frame) : opensI f = 1 ∨ opensI f = 2 ∨ opensI f = 3 := by
  unfold opensI
  cases (List.range f.Sections.length).any (fun i => stuckI f i == 1) <;> cases (List.range f.Sections.length).any (fun i => stuckI f i == 3) <;> simp
theorem ask_zero {f : Frame} (ho : okF f = true) {sec r : Int} (h : (wi sec 0 ((f.Sections.length : Int) - 1) && wi r f.Low f.High) = true) : askT f sec r = 0 := by
  unfold askT; rw [if_pos ho, if_pos h]
end Go.Proofs.Yteihdclpiekmaaa
end
section
namespace Go.Proofs.Yteihdclpiekmaaa
open Go Go.RowKit Go.Dec
set_option linter.unusedVariables false
theorem idx_any {α : Type} {step : Int → Option (Int ⊕ (Int ⊕ Unit))} (s : List α) (p : α → Bool) {n : Nat}
    (hst : ∀ (i : Nat) x, s[i]? = some x → i < s.length → step (i : Int) = some (bif p x then .inr (.inl (i : Int)) else .inl ((i + 1 : Nat) : Int)))
    (hd : step (s.length : Int) = some (.inr (.inr ()))) (hn : s.length < n) :
    (∃ k : Nat, loopO n step 0 = some (.inl (k : Int)) ∧ s.any p = true) ∨ (loopO n step 0 = some (.inr ()) ∧ s.any p = false) := by
  have h := loop_find (step := step) (fun i : Nat => match s[i]? with | some x => (bif p x then some (i : Int) else none) | none => none) s.length (n := n) (fun i hi => by
    rw [hst i s[i] (List.getElem?_eq_getElem hi) hi]
    simp only [List.getElem?_eq_getElem hi]
    cases p s[i] <;> rfl) hd hn
  rw [h]
  cases hf : (List.range s.length).findSome? (fun i : Nat => match s[i]? with | some x => (bif p x then some (i : Int) else none) | none => none) with
  | none =>
    refine .inr ⟨rfl, ?_⟩
    rw [List.any_eq_false]
    intro x hx
    obtain ⟨i, hi⟩ := List.mem_iff_getElem?.1 hx
    have h2 := (List.findSome?_eq_none_iff.1 hf) i (List.mem_range.2 (List.getElem?_eq_some_iff.1 hi).1)
    simp only [hi] at h2
    cases hp : p x with
    | false => simp
    | true => rw [hp] at h2; simp at h2
  | some r =>
    obtain ⟨i, hi, h2⟩ := List.exists_of_findSome?_eq_some hf
    refine .inl ⟨i, ?_, ?_⟩
    · have hil := List.mem_range.1 hi
      simp only [List.getElem?_eq_getElem hil] at h2
      cases hp : p s[i] with
      | false => rw [hp] at h2; simp at h2
      | true => rw [hp] at h2; simp only [cond_true, Option.some.injEq] at h2; rw [← h2]
    · have hil := List.mem_range.1 hi
      simp only [List.getElem?_eq_getElem hil] at h2
      refine List.any_eq_true.2 ⟨s[i], List.getElem_mem hil, ?_⟩
      cases hp : p s[i] with
      | false => rw [hp] at h2; simp at h2
      | true => rfl
section
variable {n : Nat} (hn : 100000000 ≤ n)
include hn
theorem p_ContainsInt (s : List Int) (f : Int → Option Bool) (p : Int → Bool) (hf : ∀ x ∈ s, f x = some (p x)) (hs : s.length ≤ 1000) : F_slices_ContainsFunc___int_int_ n s f = some (s.any p) := by
  have key := idx_any (step := F_slices_IndexFunc___int_int__s1 n s f) s p (n := n) (fun i x hx hi => by
    simp only [F_slices_IndexFunc___int_int__s1, geti_nat, hx, lt_nat, hi, decide_true, if_true, Option.bind_some, hf x (List.mem_of_getElem? hx), w64_nat (show i ≤ 4611686018427387904 by omega)]
    cases p x <;> rfl) (by simp [F_slices_IndexFunc___int_int__s1]) (by omega)
  simp only [F_slices_ContainsFunc___int_int_, F_slices_IndexFunc___int_int_]
  rcases key with ⟨k, h1, h2⟩ | ⟨h1, h2⟩
  · rw [h1, h2]; simp
  · rw [h1, h2]; rfl
theorem p_allInt (s : List Int) (f : Int → Option Bool) (p : Int → Bool) (hf : ∀ x ∈ s, f x = some (p x)) (hs : s.length ≤ 1000) : F_parts_all_int_ n s f = some (s.all p) := by
  have hc := p_ContainsInt hn s (fun a0_ => F_parts_all_int__1 n a0_ f) (fun x => !p x) (fun x hx => by show F_parts_all_int__1 n x f = _; simp only [F_parts_all_int__1, hf x hx, Option.bind_some]) hs
  simp only [F_parts_all_int_, hc, Option.bind_some]
  congr 1
  rw [List.not_any_eq_all_not]
  simp
theorem p_ContainsSlot (s : List Slot) (f : Slot → Option Bool) (p : Slot → Bool) (hf : ∀ x ∈ s, f x = some (p x)) (hs : s.length ≤ 1000) : F_slices_ContainsFunc___api_Slot_api_Slot_ n s f = some (s.any p) := by
  have key := idx_any (step := F_slices_IndexFunc___api_Slot_api_Slot__s1 n s f) s p (n := n) (fun i x hx hi => by
    simp only [F_slices_IndexFunc___api_Slot_api_Slot__s1, geti_nat, hx, lt_nat, hi, decide_true, if_true, Option.bind_some, hf x (List.mem_of_getElem? hx), w64_nat (show i ≤ 4611686018427387904 by omega)]
    cases p x <;> rfl) (by simp [F_slices_IndexFunc___api_Slot_api_Slot__s1]) (by omega)
  simp only [F_slices_ContainsFunc___api_Slot_api_Slot_, F_slices_IndexFunc___api_Slot_api_Slot_]
  rcases key with ⟨k, h1, h2⟩ | ⟨h1, h2⟩
  · rw [h1, h2]; simp
  · rw [h1, h2]; rfl
theorem p_allSlot (s : List Slot) (f : Slot → Option Bool) (p : Slot → Bool) (hf : ∀ x ∈ s, f x = some (p x)) (hs : s.length ≤ 1000) : F_parts_all_api_Slot_ n s f = some (s.all p) := by
  have hc := p_ContainsSlot hn s (fun a0_ => F_parts_all_api_Slot__1 n a0_ f) (fun x => !p x) (fun x hx => by show F_parts_all_api_Slot__1 n x f = _; simp only [F_parts_all_api_Slot__1, hf x hx, Option.bind_some]) hs
  simp only [F_parts_all_api_Slot_, hc, Option.bind_some]
  congr 1
  rw [List.not_any_eq_all_not]
  simp
theorem p_ContainsSpare (s : List Spare) (f : Spare → Option Bool) (p : Spare → Bool) (hf : ∀ x ∈ s, f x = some (p x)) (hs : s.length ≤ 1000) : F_slices_ContainsFunc___api_Spare_api_Spare_ n s f = some (s.any p) := by
  have key := idx_any (step := F_slices_IndexFunc___api_Spare_api_Spare__s1 n s f) s p (n := n) (fun i x hx hi => by
    simp only [F_slices_IndexFunc___api_Spare_api_Spare__s1, geti_nat, hx, lt_nat, hi, decide_true, if_true, Option.bind_some, hf x (List.mem_of_getElem? hx), w64_nat (show i ≤ 4611686018427387904 by omega)]
    cases p x <;> rfl) (by simp [F_slices_IndexFunc___api_Spare_api_Spare__s1]) (by omega)
  simp only [F_slices_ContainsFunc___api_Spare_api_Spare_, F_slices_IndexFunc___api_Spare_api_Spare_]
  rcases key with ⟨k, h1, h2⟩ | ⟨h1, h2⟩
  · rw [h1, h2]; simp
  · rw [h1, h2]; rfl
theorem p_allSpare (s : List Spare) (f : Spare → Option Bool) (p : Spare → Bool) (hf : ∀ x ∈ s, f x = some (p x)) (hs : s.length ≤ 1000) : F_parts_all_api_Spare_ n s f = some (s.all p) := by
  have hc := p_ContainsSpare hn s (fun a0_ => F_parts_all_api_Spare__1 n a0_ f) (fun x => !p x) (fun x hx => by show F_parts_all_api_Spare__1 n x f = _; simp only [F_parts_all_api_Spare__1, hf x hx, Option.bind_some]) hs
  simp only [F_parts_all_api_Spare_, hc, Option.bind_some]
  congr 1
  rw [List.not_any_eq_all_not]
  simp
theorem p_ContainsMake (s : List Make) (f : Make → Option Bool) (p : Make → Bool) (hf : ∀ x ∈ s, f x = some (p x)) (hs : s.length ≤ 1000) : F_slices_ContainsFunc___api_Make_api_Make_ n s f = some (s.any p) := by
  have key := idx_any (step := F_slices_IndexFunc___api_Make_api_Make__s1 n s f) s p (n := n) (fun i x hx hi => by
    simp only [F_slices_IndexFunc___api_Make_api_Make__s1, geti_nat, hx, lt_nat, hi, decide_true, if_true, Option.bind_some, hf x (List.mem_of_getElem? hx), w64_nat (show i ≤ 4611686018427387904 by omega)]
    cases p x <;> rfl) (by simp [F_slices_IndexFunc___api_Make_api_Make__s1]) (by omega)
  simp only [F_slices_ContainsFunc___api_Make_api_Make_, F_slices_IndexFunc___api_Make_api_Make_]
  rcases key with ⟨k, h1, h2⟩ | ⟨h1, h2⟩
  · rw [h1, h2]; simp
  · rw [h1, h2]; rfl
theorem p_allMake (s : List Make) (f : Make → Option Bool) (p : Make → Bool) (hf : ∀ x ∈ s, f x = some (p x)) (hs : s.length ≤ 1000) : F_parts_all_api_Make_ n s f = some (s.all p) := by
  have hc := p_ContainsMake hn s (fun a0_ => F_parts_all_api_Make__1 n a0_ f) (fun x => !p x) (fun x hx => by show F_parts_all_api_Make__1 n x f = _; simp only [F_parts_all_api_Make__1, hf x hx, Option.bind_some]) hs
  simp only [F_parts_all_api_Make_, hc, Option.bind_some]
  congr 1
  rw [List.not_any_eq_all_not]
  simp
theorem p_ContainsTrial (s : List Trial) (f : Trial → Option Bool) (p : Trial → Bool) (hf : ∀ x ∈ s, f x = some (p x)) (hs : s.length ≤ 1000) : F_slices_ContainsFunc___api_Trial_api_Trial_ n s f = some (s.any p) := by
  have key := idx_any (step := F_slices_IndexFunc___api_Trial_api_Trial__s1 n s f) s p (n := n) (fun i x hx hi => by
    simp only [F_slices_IndexFunc___api_Trial_api_Trial__s1, geti_nat, hx, lt_nat, hi, decide_true, if_true, Option.bind_some, hf x (List.mem_of_getElem? hx), w64_nat (show i ≤ 4611686018427387904 by omega)]
    cases p x <;> rfl) (by simp [F_slices_IndexFunc___api_Trial_api_Trial__s1]) (by omega)
  simp only [F_slices_ContainsFunc___api_Trial_api_Trial_, F_slices_IndexFunc___api_Trial_api_Trial_]
  rcases key with ⟨k, h1, h2⟩ | ⟨h1, h2⟩
  · rw [h1, h2]; simp
  · rw [h1, h2]; rfl
theorem p_allTrial (s : List Trial) (f : Trial → Option Bool) (p : Trial → Bool) (hf : ∀ x ∈ s, f x = some (p x)) (hs : s.length ≤ 1000) : F_parts_all_api_Trial_ n s f = some (s.all p) := by
  have hc := p_ContainsTrial hn s (fun a0_ => F_parts_all_api_Trial__1 n a0_ f) (fun x => !p x) (fun x hx => by show F_parts_all_api_Trial__1 n x f = _; simp only [F_parts_all_api_Trial__1, hf x hx, Option.bind_some]) hs
  simp only [F_parts_all_api_Trial_, hc, Option.bind_some]
  congr 1
  rw [List.not_any_eq_all_not]
  simp
end
def okLen (s : Span) : Bool := wi s.Low 0 s.High && decide (s.High ≤ 999)
def okMark (k : Int) : Bool := wi k 0 9
def okSpare (s : Spare) : Bool := okMark s.Kind && okMark s.Section && okLen s.Length
def ascAt (l : List Int) (i : Int) : Bool := match geti l i, geti l (i - 1) with | some x, some y => decide (y < x) | _, _ => true
def asc (l : List Int) : Bool := (span 1 ((l.length : Int) - 1)).all (ascAt l)
def okSlot (s : Slot) : Bool := s.Sections.all okMark && okMark s.Kind && decide (s.Sections.length ≤ 4) && asc s.Sections && okLen s.Length
def okMake (m : Make) : Bool := decide (m.Slots.length ≤ 4) && m.Slots.all okSlot
def isSp (w : Workshop) (i : Int) : Bool := wi i 0 ((w.Spares.length : Int) - 1)
def makeAt (w : Workshop) (m : Int) : Make := w.Makes.getD m.toNat ⟨[]⟩
def slotAt (w : Workshop) (m s : Int) : Slot := (makeAt w m).Slots.getD s.toNat ⟨0, [], ⟨0, 0⟩⟩
def spareAt (w : Workshop) (i : Int) : Spare := w.Spares.getD i.toNat ⟨0, 0, ⟨0, 0⟩⟩
def isSl (w : Workshop) (m s : Int) : Bool := wi m 0 ((w.Makes.length : Int) - 1) && wi s 0 (((makeAt w m).Slots.length : Int) - 1)
def okTrial (w : Workshop) (t : Trial) : Bool := isSp w t.Spare && isSl w t.Make t.Slot && wi t.Fits 0 1
def okW (w : Workshop) : Bool := decide (w.Spares.length ≤ 10) && decide (w.Makes.length ≤ 6) && wi w.Cut 0 99 && decide (w.Table.length ≤ 30) && w.Spares.all okSpare && w.Makes.all okMake && w.Table.all (okTrial w)
structure SmallW (w : Workshop) : Prop where
  nsp : w.Spares.length ≤ 40
  nmk : w.Makes.length ≤ 40
  ntb : w.Table.length ≤ 60
  nsl : ∀ m ∈ w.Makes, m.Slots.length ≤ 20
  nsc : ∀ m ∈ w.Makes, ∀ s ∈ m.Slots, s.Sections.length ≤ 20
theorem getD_geti {α : Type} {l : List α} {i : Int} {d : α} (h0 : 0 ≤ i) (h : i < l.length) : geti l i = some (l.getD i.toNat d) := by
  obtain ⟨k, rfl⟩ : ∃ k : Nat, i = k := ⟨i.toNat, by omega⟩
  rw [geti_nat, Int.toNat_natCast, List.getElem?_eq_getElem (by omega), List.getD_eq_getElem?_getD, List.getElem?_eq_getElem (by omega)]
  rfl
theorem getD_mem' {α : Type} {l : List α} {i : Int} {d : α} (h0 : 0 ≤ i) (h : i < l.length) : l.getD i.toNat d ∈ l := by
  rw [List.getD_eq_getElem?_getD, List.getElem?_eq_getElem (by omega)]
  exact List.getElem_mem _
section
variable {n : Nat} (hn : 100000000 ≤ n)
include hn
omit hn in
theorem p_W7 (n : Nat) (a b c : Int) : F_ref07_Within n a b c = some (wi a b c) := rfl
omit hn in
theorem p_wp (n : Nat) (a b c : Int) : F_parts_within n a b c = some (wi a b c) := rfl
theorem p_asc7 (l : List Int) (hl : l.length ≤ 1000) : F_ref07_Ascending n l = some (asc l) := by
  have := loop_span_all (step := F_ref07_Ascending_s1 n l) (ascAt l) (r := false) (hi := (l.length : Int) - 1) _ 1 n rfl (fun b h1 h2 => by
    obtain ⟨k, rfl⟩ : ∃ k : Nat, b = ((k + 1 : Nat) : Int) := ⟨(b - 1).toNat, by omega⟩
    have hk : k + 1 < l.length := by omega
    simp only [F_ref07_Ascending_s1, ascAt, lt_nat, hk, decide_true, if_true, w64_nat (show k + 1 ≤ 4611686018427387904 by omega)]
    rw [w64_id (by omega) (by omega)]
    have e : ((k + 1 : Nat) : Int) - 1 = (k : Int) := by omega
    rw [e, geti_nat, geti_nat, List.getElem?_eq_getElem hk, List.getElem?_eq_getElem (show k < l.length by omega)]
    simp only [Option.bind_some]
    by_cases h : l[k + 1] ≤ l[k]
    · rw [if_pos (by simpa using h)]; simp [show ¬ l[k] < l[k + 1] by omega]
    · rw [if_neg (by simpa using h)]; simp [show l[k] < l[k + 1] by omega]) (fun b h1 h2 => by
    have : ¬ b < (l.length : Int) := by omega
    simp [F_ref07_Ascending_s1, this]) (by omega)
  simp only [F_ref07_Ascending, this, Option.bind_some, asc]
  cases (span 1 ((l.length : Int) - 1)).all (ascAt l) <;> rfl
theorem p_ascP (l : List Int) (hl : l.length ≤ 1000) : F_parts_ascending n l = some (asc l) := p_asc7 hn l hl
omit hn in
theorem p_len7 (n : Nat) (s : Span) : F_ref07_isLength n s = some (okLen s) := rfl
omit hn in
theorem p_lenP (n : Nat) (s : Span) : F_parts_isLength n s = some (okLen s) := rfl
theorem p_slot7 (s : Slot) (hl : s.Sections.length ≤ 1000) : F_ref07_isSlot n s = some (okSlot s) := by
  have := loop_all_l (step := F_ref07_isSlot_s1 n s) s.Sections okMark false (n := n) (by omega) (fun i x hx hi => by
    simp only [F_ref07_isSlot_s1, lt_nat, hi, decide_true, if_true, geti_nat, hx, Option.bind_some, p_W7, w64_nat (show i ≤ 4611686018427387904 by omega), okMark]
    cases wi x 0 9 <;> rfl) (by simp [F_ref07_isSlot_s1]) (by omega)
  simp only [F_ref07_isSlot, this, Option.bind_some, okSlot]
  have e : decide ((s.Sections.length : Int) ≤ 4) = decide (s.Sections.length ≤ 4) := by congr 1; simp; omega
  cases s.Sections.all okMark with
  | false => rfl
  | true => simp only [cond_true, p_W7, p_asc7 hn _ hl, p_len7, Option.bind_some, and_br, okMark, Bool.true_and, e]
theorem p_slotP (s : Slot) (hl : s.Sections.length ≤ 1000) : F_parts_isWorkshop_2 n s = some (okSlot s) := by
  have e : decide ((s.Sections.length : Int) ≤ 4) = decide (s.Sections.length ≤ 4) := by congr 1; simp; omega
  have ha := p_allInt hn s.Sections (fun a0_ => F_parts_isMark n a0_) okMark (fun x _ => rfl) hl
  simp only [F_parts_isWorkshop_2, ha]
  simp only [F_parts_isMark, p_wp, p_ascP hn _ hl, p_lenP, Option.bind_some, and_br, okSlot, okMark, e]
  congr 1
  cases wi s.Kind 0 9 <;> cases decide (s.Sections.length ≤ 4) <;> simp
theorem p_isSp7 (w : Workshop) (i : Int) (hl : w.Spares.length ≤ 1000) : F_ref07_IsSpare n w i = some (isSp w i) := by
  have _hn := hn
  simp only [F_ref07_IsSpare, p_W7, Option.bind_some, isSp]
  rw [w64_id (by omega) (by omega)]
theorem p_isSpP (w : Workshop) (i : Int) (hl : w.Spares.length ≤ 1000) : F_parts_isSpare n w i = some (isSp w i) := p_isSp7 hn w i hl
theorem p_isSl7 (w : Workshop) (hs : SmallW w) (m s : Int) : F_ref07_IsSlotOf n w m s = some (isSl w m s) := by
  have hm := hs.nmk
  have _hn := hn
  simp only [F_ref07_IsSlotOf, F_ref07_IsMake, p_W7, Option.bind_some, isSl]
  rw [w64_id (by omega) (by omega)]
  cases h : wi m 0 ((w.Makes.length : Int) - 1) with
  | false => rfl
  | true =>
    have := wi_t.1 h
    have hg : geti w.Makes m = some (makeAt w m) := getD_geti (by omega) (by omega)
    have hl := hs.nsl _ (show makeAt w m ∈ w.Makes from getD_mem' (by omega) (by omega))
    simp only [if_true, hg, Option.bind_some, Bool.true_and]
    rw [w64_id (by omega) (by omega)]
theorem p_isSlP (w : Workshop) (hs : SmallW w) (m s : Int) : F_parts_isSlot n w m s = some (isSl w m s) := by
  have hm := hs.nmk
  have _hn := hn
  simp only [F_parts_isSlot, p_wp, Option.bind_some, isSl]
  rw [w64_id (by omega) (by omega)]
  cases h : wi m 0 ((w.Makes.length : Int) - 1) with
  | false => rfl
  | true =>
    have := wi_t.1 h
    have hg : geti w.Makes m = some (makeAt w m) := getD_geti (by omega) (by omega)
    have hl := hs.nsl _ (show makeAt w m ∈ w.Makes from getD_mem' (by omega) (by omega))
    simp only [if_true, hg, Option.bind_some, Bool.true_and]
    rw [w64_id (by omega) (by omega)]
theorem p_isW7 (w : Workshop) (hs : SmallW w) : F_ref07_isWorkshop n w = some (okW w) := by
  have h1 := hs.nsp; have h2 := hs.nmk; have h3 := hs.ntb
  have l1 := loop_all_l (step := F_ref07_isWorkshop_s1 n w) w.Spares okSpare false (n := n) (by omega) (fun i x hx hi => by
    simp only [F_ref07_isWorkshop_s1, lt_nat, hi, decide_true, if_true, geti_nat, hx, Option.bind_some, p_W7, p_len7, or_br, w64_nat (show i ≤ 4611686018427387904 by omega), okSpare, okMark]
    cases wi x.Kind 0 9 <;> cases wi x.Section 0 9 <;> cases okLen x.Length <;> rfl) (by simp [F_ref07_isWorkshop_s1]) (by omega)
  have l2 := loop_all_l (step := F_ref07_isWorkshop_s2 n w) w.Makes okMake false (n := n) (by omega) (fun i x hx hi => by
    have hxm := List.mem_of_getElem? hx
    have e : decide (4 < (x.Slots.length : Int)) = !decide (x.Slots.length ≤ 4) := by rw [← decide_not]; congr 1; simp; omega
    simp only [F_ref07_isWorkshop_s2, lt_nat, hi, decide_true, if_true, geti_nat, hx, Option.bind_some, okMake, e]
    cases hd : decide (x.Slots.length ≤ 4) with
    | false => rfl
    | true =>
      have l := loop_all_l (step := F_ref07_isWorkshop_s3 n w (i : Int)) x.Slots okSlot (Sum.inr (Sum.inl false)) (n := n) (by have := hs.nsl _ hxm; omega) (fun k y hy hk => by
        simp only [F_ref07_isWorkshop_s3, geti_nat, hx, Option.bind_some, lt_nat, hk, decide_true, if_true, hy, p_slot7 hn y (by have := hs.nsc _ hxm _ (List.mem_of_getElem? hy); omega), w64_nat (show k ≤ 4611686018427387904 by have := hs.nsl _ hxm; omega)]
        cases okSlot y <;> rfl) (by simp [F_ref07_isWorkshop_s3, geti_nat, hx]) (by have := hs.nsl _ hxm; omega)
      simp only [Bool.not_true, Bool.false_eq_true, if_false, l, Option.bind_some, Bool.true_and, w64_nat (show i ≤ 4611686018427387904 by omega)]
      cases x.Slots.all okSlot <;> rfl) (by simp [F_ref07_isWorkshop_s2]) (by omega)
  have l3 := loop_all_l (step := F_ref07_isWorkshop_s4 n w) w.Table (okTrial w) false (n := n) (by omega) (fun i x hx hi => by
    simp only [F_ref07_isWorkshop_s4, lt_nat, hi, decide_true, if_true, geti_nat, hx, Option.bind_some, p_W7, p_isSp7 hn w _ (by omega), p_isSl7 hn w hs, or_br, w64_nat (show i ≤ 4611686018427387904 by omega), okTrial]
    cases isSp w x.Spare <;> cases isSl w x.Make x.Slot <;> cases wi x.Fits 0 1 <;> rfl) (by simp [F_ref07_isWorkshop_s4]) (by omega)
  have e1 : decide (10 < (w.Spares.length : Int)) = !decide (w.Spares.length ≤ 10) := by rw [← decide_not]; congr 1; simp; omega
  have e2 : decide (6 < (w.Makes.length : Int)) = !decide (w.Makes.length ≤ 6) := by rw [← decide_not]; congr 1; simp; omega
  have e3 : decide (30 < (w.Table.length : Int)) = !decide (w.Table.length ≤ 30) := by rw [← decide_not]; congr 1; simp; omega
  simp only [F_ref07_isWorkshop, p_W7, Option.bind_some, or_br, e1, e2, e3, l1, l2, l3, okW]
  cases decide (w.Spares.length ≤ 10) <;> cases decide (w.Makes.length ≤ 6) <;> cases wi w.Cut 0 99 <;> cases decide (w.Table.length ≤ 30) <;> cases w.Spares.all okSpare <;> cases w.Makes.all okMake <;> cases w.Table.all (okTrial w) <;> rfl
theorem p_isWP (w : Workshop) (hs : SmallW w) : F_parts_isWorkshop n w = some (okW w) := by
  have h1 := hs.nsp; have h2 := hs.nmk; have h3 := hs.ntb
  have a1 := p_allSpare hn w.Spares (fun a0_ => F_parts_isWorkshop_1 n a0_) okSpare (fun x _ => by
    simp only [F_parts_isWorkshop_1, F_parts_isMark, p_wp, p_lenP, Option.bind_some, and_br, okSpare, okMark]) (by omega)
  have a2 := p_allMake hn w.Makes (fun a0_ => F_parts_isWorkshop_3 n a0_ (fun a0_ => F_parts_isWorkshop_2 n a0_)) okMake (fun x hx => by
    have e : decide ((x.Slots.length : Int) ≤ 4) = decide (x.Slots.length ≤ 4) := by congr 1; simp; omega
    simp only [F_parts_isWorkshop_3, p_allSlot hn x.Slots (fun a0_ => F_parts_isWorkshop_2 n a0_) okSlot (fun y hy => p_slotP hn y (by have := hs.nsc _ hx _ hy; omega)) (by have := hs.nsl _ hx; omega), Option.bind_some, and_br, okMake, e]) (by omega)
  have a3 := p_allTrial hn w.Table (fun a0_ => F_parts_isWorkshop_4 n a0_ w) (okTrial w) (fun x _ => by
    simp only [F_parts_isWorkshop_4, p_isSpP hn w _ (show w.Spares.length ≤ 1000 by omega), p_isSlP hn w hs, p_wp, Option.bind_some, and_br, okTrial]) (by omega)
  have e1 : decide ((w.Spares.length : Int) ≤ 10) = decide (w.Spares.length ≤ 10) := by congr 1; simp; omega
  have e2 : decide ((w.Makes.length : Int) ≤ 6) = decide (w.Makes.length ≤ 6) := by congr 1; simp; omega
  have e3 : decide ((w.Table.length : Int) ≤ 30) = decide (w.Table.length ≤ 30) := by congr 1; simp; omega
  simp only [F_parts_isWorkshop, p_wp, a1, a2, a3, Option.bind_some, and_br, e1, e2, e3, okW]
  congr 1
  cases decide (w.Spares.length ≤ 10) <;> cases decide (w.Makes.length ≤ 6) <;> cases wi w.Cut 0 99 <;> cases decide (w.Table.length ≤ 30) <;> cases w.Spares.all okSpare <;> cases w.Makes.all okMake <;> cases w.Table.all (okTrial w) <;> rfl
end
end Go.Proofs.Yteihdclpiekmaaa
end
section
namespace Go.Proofs.Yteihdclpiekmaaa
open Go Go.RowKit Go.Dec
set_option linter.unusedVariables false
def clash (a b : Trial) : Bool := a.Spare == b.Spare && a.Make == b.Make && a.Slot == b.Slot && a.Fits != b.Fits
def clashAt (w : Workshop) (i k : Nat) : Bool := match w.Table[k]?, w.Table[i]? with | some a, some b => clash a b | _, _ => false
def free (w : Workshop) : Bool := (List.range w.Table.length).all fun i => (List.range i).all fun k => !clashAt w i k
def checkW (w : Workshop) : Int := if okW w = true then (if free w = true then 0 else 71) else 70
def fitsAt (w : Workshop) (i len m s : Int) : Bool := (spareAt w i).Kind == (slotAt w m s).Kind && (slotAt w m s).Sections.any (fun x => x == (spareAt w i).Section) && wi len (slotAt w m s).Length.Low ((slotAt w m s).Length.High + w.Cut)
def canBe (w : Workshop) (i len : Int) : Bool := w.Table.all fun t => (t.Spare != i) || (fitsAt w i len t.Make t.Slot == (t.Fits == 1))
def allL (w : Workshop) (i : Int) : List Int := (span (spareAt w i).Length.Low (spareAt w i).Length.High).filter (canBe w i)
/-- a valid workshop -/
structure WOk (w : Workshop) : Prop where
  nsp : w.Spares.length ≤ 10
  nmk : w.Makes.length ≤ 6
  ntb : w.Table.length ≤ 30
  cut : 0 ≤ w.Cut ∧ w.Cut ≤ 99
  sp : ∀ s ∈ w.Spares, 0 ≤ s.Length.Low ∧ s.Length.Low ≤ s.Length.High ∧ s.Length.High ≤ 999
  sl : ∀ m ∈ w.Makes, ∀ s ∈ m.Slots, 0 ≤ s.Length.Low ∧ s.Length.Low ≤ s.Length.High ∧ s.Length.High ≤ 999
  tr : ∀ t ∈ w.Table, (0 ≤ t.Spare ∧ t.Spare < w.Spares.length) ∧ (0 ≤ t.Make ∧ t.Make < w.Makes.length) ∧ (0 ≤ t.Slot ∧ t.Slot < (makeAt w t.Make).Slots.length) ∧ 0 ≤ t.Fits ∧ t.Fits ≤ 1
theorem okLen_iff {s : Span} : okLen s = true ↔ 0 ≤ s.Low ∧ s.Low ≤ s.High ∧ s.High ≤ 999 := by
  simp only [okLen, Bool.and_eq_true, wi_t, decide_eq_true_eq, and_assoc]
theorem okW_wok {w : Workshop} (h : okW w = true) : WOk w := by
  simp only [okW, Bool.and_eq_true, decide_eq_true_eq, List.all_eq_true, wi_t] at h
  obtain ⟨⟨⟨⟨⟨⟨h1, h2⟩, h3⟩, h4⟩, h5⟩, h6⟩, h7⟩ := h
  refine ⟨h1, h2, h4, h3, fun s hs => ?_, fun m hm s hs => ?_, fun t ht => ?_⟩
  · have := h5 s hs
    simp only [okSpare, Bool.and_eq_true, okLen_iff] at this
    exact this.2
  · have := h6 m hm
    simp only [okMake, Bool.and_eq_true, List.all_eq_true] at this
    have := this.2 s hs
    simp only [okSlot, Bool.and_eq_true, okLen_iff] at this
    exact this.2
  · have := h7 t ht
    simp only [okTrial, Bool.and_eq_true, isSp, isSl, wi_t] at this
    obtain ⟨⟨a, b, c⟩, d⟩ := this
    exact ⟨by omega, by omega, by omega, d⟩
theorem makeAt_mem {w : Workshop} {m : Int} (h : 0 ≤ m ∧ m < w.Makes.length) : makeAt w m ∈ w.Makes := getD_mem' h.1 h.2
theorem slotAt_mem {w : Workshop} {m s : Int} (h : 0 ≤ s ∧ s < (makeAt w m).Slots.length) : slotAt w m s ∈ (makeAt w m).Slots := getD_mem' h.1 h.2
theorem spareAt_mem {w : Workshop} {i : Int} (h : 0 ≤ i ∧ i < w.Spares.length) : spareAt w i ∈ w.Spares := getD_mem' h.1 h.2
section
variable {n : Nat} (hn : 100000000 ≤ n)
include hn
theorem p_Check7 (w : Workshop) (hs : SmallW w) : F_ref07_Check n w = some (checkW w) := by
  have h3 := hs.ntb
  simp only [F_ref07_Check, p_isW7 hn w hs, Option.bind_some, checkW]
  cases okW w with
  | false => rfl
  | true =>
    have l := loop_all (step := F_ref07_Check_s1 n w) w.Table.length (fun i => (List.range i).all fun k => !clashAt w i k) (71 : Int) (n := n) (by omega) (fun i hi => by
      have l2 := loop_all (step := F_ref07_Check_s2 n w (i : Int)) i (fun k => !clashAt w i k) (Sum.inr (Sum.inl (71 : Int))) (n := n) (by omega) (fun k hk => by
        have e1 : w.Table[k]? = some w.Table[k] := List.getElem?_eq_getElem (by omega)
        have e2 : w.Table[i]? = some w.Table[i] := List.getElem?_eq_getElem hi
        simp only [F_ref07_Check_s2, lt_nat, hk, decide_true, if_true, geti_nat, e1, e2, Option.bind_some, clashAt, clash, w64_nat (show k ≤ 4611686018427387904 by omega)]
        cases (((w.Table[k].Spare == w.Table[i].Spare) && (w.Table[k].Make == w.Table[i].Make)) && (w.Table[k].Slot == w.Table[i].Slot)) && (w.Table[k].Fits != w.Table[i].Fits) <;> rfl) (by simp [F_ref07_Check_s2]) (by omega)
      simp only [F_ref07_Check_s1, lt_nat, hi, decide_true, if_true, l2, Option.bind_some, w64_nat (show i ≤ 4611686018427387904 by omega)]
      cases (List.range i).all fun k => !clashAt w i k <;> rfl) (by simp [F_ref07_Check_s1]) (by omega)
    have l' : loopO n (F_ref07_Check_s1 n w) 0 = some (bif free w then .inr () else .inl 71) := l
    simp only [Bool.not_true, Bool.false_eq_true, if_false, l', Option.bind_some, if_true]
    cases free w <;> rfl
theorem p_Far7 (w : Workshop) : ∃ b, F_law07_Far n w = some b ∧ (b = false → SmallW w) := by
  simp only [F_law07_Far]
  by_cases h : (((decide (40 < (w.Spares.length : Int))) || (decide (40 < (w.Makes.length : Int)))) || (decide (60 < (w.Table.length : Int)))) = true
  · rw [if_pos h]; exact ⟨true, rfl, fun h => by cases h⟩
  · rw [if_neg h]
    simp only [Bool.not_eq_true, Bool.or_eq_false_iff, decide_eq_false_iff_not] at h
    have l1 := loop_all_l (step := F_law07_Far_s1 n w) w.Makes (fun m => decide (m.Slots.length ≤ 20) && m.Slots.all fun s => decide (s.Sections.length ≤ 20)) true (n := n) (by omega) (fun i x hx hi => by
      have e : decide (20 < (x.Slots.length : Int)) = !decide (x.Slots.length ≤ 20) := by rw [← decide_not]; congr 1; simp; omega
      simp only [F_law07_Far_s1, lt_nat, hi, decide_true, if_true, geti_nat, hx, Option.bind_some, e]
      cases hd : decide (x.Slots.length ≤ 20) with
      | false => rfl
      | true =>
        have hl := of_decide_eq_true hd
        have l := loop_all_l (step := F_law07_Far_s2 n w (i : Int)) x.Slots (fun s => decide (s.Sections.length ≤ 20)) (Sum.inr (Sum.inl true)) (n := n) (by omega) (fun k y hy hk => by
          have e : decide (20 < (y.Sections.length : Int)) = !decide (y.Sections.length ≤ 20) := by rw [← decide_not]; congr 1; simp; omega
          simp only [F_law07_Far_s2, geti_nat, hx, Option.bind_some, lt_nat, hk, decide_true, if_true, hy, e, w64_nat (show k ≤ 4611686018427387904 by omega)]
          cases decide (y.Sections.length ≤ 20) <;> rfl) (by simp [F_law07_Far_s2, geti_nat, hx]) (by omega)
        simp only [Bool.not_true, Bool.false_eq_true, if_false, l, Option.bind_some, Bool.true_and, w64_nat (show i ≤ 4611686018427387904 by omega)]
        cases x.Slots.all fun s => decide (s.Sections.length ≤ 20) <;> rfl) (by simp [F_law07_Far_s1]) (by omega)
    rw [l1]
    cases ha : w.Makes.all (fun m => decide (m.Slots.length ≤ 20) && m.Slots.all fun s => decide (s.Sections.length ≤ 20)) with
    | false => exact ⟨true, rfl, fun h => by cases h⟩
    | true =>
      have hs : SmallW w := by
        simp only [List.all_eq_true, Bool.and_eq_true, decide_eq_true_eq] at ha
        exact ⟨by omega, by omega, by omega, fun m hm => (ha m hm).1, fun m hm => (ha m hm).2⟩
      simp only [cond_true, Option.bind_some, p_Check7 hn w hs]
      by_cases hc : (checkW w != 0) = true
      · rw [if_pos hc]; exact ⟨_, rfl, fun _ => hs⟩
      · rw [if_neg hc]
        have l3 := loop_all_l (step := F_law07_Far_s3 n w) w.Spares (fun s => !decide (50 ≤ (w64 (s.Length.High - s.Length.Low)))) true (n := n) (by omega) (fun i x hx hi => by
          simp only [F_law07_Far_s3, lt_nat, hi, decide_true, if_true, geti_nat, hx, Option.bind_some, w64_nat (show i ≤ 4611686018427387904 by omega)]
          cases decide (50 ≤ (w64 (x.Length.High - x.Length.Low))) <;> rfl) (by simp [F_law07_Far_s3]) (by omega)
        rw [l3]
        cases w.Spares.all (fun s => !decide (50 ≤ (w64 (s.Length.High - s.Length.Low)))) with
        | false => exact ⟨true, rfl, fun h => by cases h⟩
        | true => exact ⟨_, rfl, fun _ => hs⟩
theorem p_In7 (l : List Int) (v : Int) (hl : l.length ≤ 1000) : F_ref07_In n l v = some (l.any fun x => x == v) := by
  have h := loop_all_l (step := F_ref07_In_s1 n l v) l (fun x => !(x == v)) true (n := n) (by omega) (fun i x hx hi => by
    simp only [F_ref07_In_s1, lt_nat, hi, decide_true, if_true, geti_nat, hx, Option.bind_some, w64_nat (show i ≤ 4611686018427387904 by omega)]
    cases x == v <;> rfl) (by simp [F_ref07_In_s1]) (by omega)
  simp only [F_ref07_In, h, Option.bind_some]
  rw [← List.not_any_eq_all_not]
  cases l.any fun x => x == v <;> rfl
theorem p_ContP (l : List Int) (v : Int) (hl : l.length ≤ 1000) : F_slices_Contains___int_int_ n l v = some (l.any fun x => x == v) := by
  have key := idx_any (step := F_slices_Index___int_int__s1 n l v) l (fun x => x == v) (n := n) (fun i x hx hi => by
    have e : (v == x) = (x == v) := by rw [Bool.eq_iff_iff, beq_iff_eq, beq_iff_eq]; exact eq_comm
    simp only [F_slices_Index___int_int__s1, geti_nat, hx, lt_nat, hi, decide_true, if_true, Option.bind_some, e, w64_nat (show i ≤ 4611686018427387904 by omega)]
    cases x == v <;> rfl) (by simp [F_slices_Index___int_int__s1]) (by omega)
  simp only [F_slices_Contains___int_int_, F_slices_Index___int_int_]
  rcases key with ⟨k, h1, h2⟩ | ⟨h1, h2⟩
  · rw [h1, h2]; simp
  · rw [h1, h2]; rfl
section
variable {w : Workshop} (hs : SmallW w) (hw : WOk w)
include hs hw
theorem p_Fits7 {i len m s : Int} (hi : 0 ≤ i ∧ i < w.Spares.length) (hm : 0 ≤ m ∧ m < w.Makes.length) (hsl : 0 ≤ s ∧ s < (makeAt w m).Slots.length) : F_ref07_FitsAt n w i len m s = some (fitsAt w i len m s) := by
  have e1 : geti w.Spares i = some (spareAt w i) := getD_geti hi.1 hi.2
  have e2 : geti w.Makes m = some (makeAt w m) := getD_geti hm.1 hm.2
  have e3 : geti (makeAt w m).Slots s = some (slotAt w m s) := getD_geti hsl.1 hsl.2
  have k1 := hw.cut
  have k2 := hw.sl _ (makeAt_mem hm) _ (slotAt_mem hsl)
  have k3 := hs.nsc _ (makeAt_mem hm) _ (slotAt_mem hsl)
  simp only [F_ref07_FitsAt, e1, e2, e3, Option.bind_some, p_In7 hn _ _ (show (slotAt w m s).Sections.length ≤ 1000 by omega), p_W7, and_br, fitsAt]
  rw [w64_id (by omega) (by omega)]
theorem p_FitsP {i len m s : Int} (hi : 0 ≤ i ∧ i < w.Spares.length) (hm : 0 ≤ m ∧ m < w.Makes.length) (hsl : 0 ≤ s ∧ s < (makeAt w m).Slots.length) : F_parts_fits n w i len m s = some (fitsAt w i len m s) := by
  have e1 : geti w.Spares i = some (spareAt w i) := getD_geti hi.1 hi.2
  have e2 : geti w.Makes m = some (makeAt w m) := getD_geti hm.1 hm.2
  have e3 : geti (makeAt w m).Slots s = some (slotAt w m s) := getD_geti hsl.1 hsl.2
  have k1 := hw.cut
  have k2 := hw.sl _ (makeAt_mem hm) _ (slotAt_mem hsl)
  have k3 := hs.nsc _ (makeAt_mem hm) _ (slotAt_mem hsl)
  simp only [F_parts_fits, e1, e2, e3, Option.bind_some, p_ContP hn _ _ (show (slotAt w m s).Sections.length ≤ 1000 by omega), p_wp, and_br, fitsAt]
  rw [w64_id (by omega) (by omega)]
theorem p_CanBe7 {i len : Int} (hi : 0 ≤ i ∧ i < w.Spares.length) : F_ref07_CanBe n w i len = some (canBe w i len && wi len (spareAt w i).Length.Low (spareAt w i).Length.High) := by
  have h3 := hw.ntb
  have l := loop_all_l (step := F_ref07_CanBe_s1 n w i len) w.Table (fun t => (t.Spare != i) || (fitsAt w i len t.Make t.Slot == (t.Fits == 1))) false (n := n) (by omega) (fun k t ht hk => by
    obtain ⟨_, t2, t3, _⟩ := hw.tr t (List.mem_of_getElem? ht)
    simp only [F_ref07_CanBe_s1, lt_nat, hk, decide_true, if_true, geti_nat, ht, Option.bind_some, p_Fits7 hn hs hw hi t2 t3, and_br, w64_nat (show k ≤ 4611686018427387904 by omega), bne]
    cases t.Spare == i <;> cases fitsAt w i len t.Make t.Slot <;> cases t.Fits == 1 <;> rfl) (by simp [F_ref07_CanBe_s1]) (by omega)
  have e1 : geti w.Spares i = some (spareAt w i) := getD_geti hi.1 hi.2
  simp only [F_ref07_CanBe, l, Option.bind_some, e1, p_W7, canBe]
  cases w.Table.all (fun t => (t.Spare != i) || (fitsAt w i len t.Make t.Slot == (t.Fits == 1))) <;> rfl
theorem p_all7 {i : Int} (hi : 0 ≤ i ∧ i < w.Spares.length) : F_ref07_all n w i = some (allL w i) := by
  have e1 : geti w.Spares i = some (spareAt w i) := getD_geti hi.1 hi.2
  have b := hw.sp _ (spareAt_mem hi)
  generalize hlo : (spareAt w i).Length.Low = lo at b
  generalize hhi : (spareAt w i).Length.High = h at b
  have l := loop_span_fold (step := F_ref07_all_s1 n w i) (fun (z : Int) (o : List Int) => (z, o)) (fun o z => if canBe w i z = true then o ++ [z] else o) id (fun z o => (o.length : Int) ≤ z - lo) (hi := h) _ lo [] n rfl (by simp) (fun z o h1 h2 hI => by
    have hwi : wi z lo h = true := wi_t.2 ⟨h1, h2⟩
    simp only [F_ref07_all_s1, e1, Option.bind_some, hhi, h2, decide_true, if_true, p_CanBe7 hn hs hw hi, hlo, hwi, Bool.and_true]
    rw [w64_id (by omega) (by omega)]
    cases hc : canBe w i z with
    | true =>
      have : lim (o ++ [z]) = some (o ++ [z]) := lim_ok (by simp; omega)
      simp only [if_true, this, Option.bind_some, true_and, List.length_append, List.length_singleton]
      omega
    | false => simp only [Bool.false_eq_true, if_false, Option.bind_some, true_and]; omega) (fun z o h1 h2 _ => by
      have : ¬ z ≤ h := by omega
      simp [F_ref07_all_s1, e1, hhi, this]) (by omega)
  simp only [F_ref07_all, e1, Option.bind_some, hlo, l.1, id, foldl_filter_append, List.nil_append, allL, hhi]
theorem p_known7 (is : Bool) : F_ref07_known n w is = some (if checkW w ≠ 0 then checkW w else if is = false then 1 else if (List.range w.Spares.length).all (fun i => !(allL w i).isEmpty) = true then 0 else 3) := by
  have h1 := hw.nsp
  simp only [F_ref07_known, p_Check7 hn w hs, Option.bind_some]
  by_cases hc : checkW w = 0
  · rw [if_neg (by simp [hc])]
    cases is with
    | false => simp [hc]
    | true =>
      have l := loop_all (step := F_ref07_known_s1 n w) w.Spares.length (fun i => !(allL w i).isEmpty) (3 : Int) (n := n) (by omega) (fun i hi => by
        simp only [F_ref07_known_s1, lt_nat, hi, decide_true, if_true, p_all7 hn hs hw (i := (i : Int)) (by omega), Option.bind_some, w64_nat (show i ≤ 4611686018427387904 by omega)]
        cases hl : allL w (i : Int) with
        | nil => rfl
        | cons a r =>
          have : ((((a :: r).length : Nat) : Int) == 0) = false := by simp; omega
          rw [this]; rfl) (by simp [F_ref07_known_s1]) (by omega)
      simp only [Bool.not_true, Bool.false_eq_true, if_false, l, Option.bind_some, hc, ne_eq, not_true, Bool.true_eq_false]
      cases (List.range w.Spares.length).all (fun i => !(allL w i).isEmpty) <;> rfl
  · rw [if_pos (by simpa using hc)]; simp [hc]
end
theorem p_Known7 (w : Workshop) (hs : SmallW w) : ∃ e, F_ref07_Known n w = some e ∧ (e = 0 → okW w = true ∧ free w = true ∧ ∀ i : Nat, i < w.Spares.length → allL w i ≠ []) := by
  by_cases ho : okW w = true
  · have hk := p_known7 hn hs (okW_wok ho) true
    refine ⟨_, by rw [F_ref07_Known, hk]; rfl, fun h => ?_⟩
    by_cases hf : free w = true
    · refine ⟨ho, hf, fun i hi hnil => ?_⟩
      have hc : checkW w = 0 := by unfold checkW; rw [if_pos ho, if_pos hf]
      have ha : ¬ (List.range w.Spares.length).all (fun i => !(allL w i).isEmpty) = true := fun ha => by
        have := List.all_eq_true.1 ha i (List.mem_range.2 hi)
        rw [hnil] at this
        cases this
      rw [if_neg (by simp [hc]), if_neg (by simp), if_neg ha] at h
      cases h
    · have hc : checkW w = 71 := by unfold checkW; rw [if_pos ho, if_neg hf]
      rw [hc] at h
      cases h
  · have hc : checkW w = 70 := by unfold checkW; rw [if_neg ho]
    refine ⟨70, ?_, fun h => by cases h⟩
    simp only [F_ref07_Known, F_ref07_known, p_Check7 hn w hs, hc, Option.bind_some]
    rfl
theorem p_Copy7 (w : Workshop) (hs : SmallW w) : F_ref07_Copy n w = some w := by
  have h1 := hs.nsp; have h2 := hs.nmk; have h3 := hs.ntb
  have e1 : lim (([] : List Spare) ++ w.Spares) = some w.Spares := by rw [List.nil_append]; exact lim_ok (by omega)
  have e2 : lim (([] : List Trial) ++ w.Table) = some w.Table := by rw [List.nil_append]; exact lim_ok (by omega)
  have l := loop_fold (step := F_ref07_Copy_s1 n w) w.Makes (fun i (o : List Make) => ((i : Int), o)) (fun o m => o ++ [m]) id (fun i o => o.length = i) (n := n) [] rfl (fun i m o hm hI => by
    have hi := (List.getElem?_eq_some_iff.1 hm).1
    have hml := hs.nsl _ (List.mem_of_getElem? hm)
    have e3 : lim (([] : List Slot) ++ m.Slots) = some m.Slots := by rw [List.nil_append]; exact lim_ok (by omega)
    have l2 := loop_run (step := F_ref07_Copy_s2 n) (fun j => ((j : Int), m.Slots)) (r := m.Slots) m.Slots.length 0 n (fun j _ hj => by
      have hj' : j < m.Slots.length := by omega
      have e4 : m.Slots[j]? = some m.Slots[j] := List.getElem?_eq_getElem hj'
      have e5 : lim (([] : List Int) ++ m.Slots[j].Sections) = some m.Slots[j].Sections := by rw [List.nil_append]; exact lim_ok (by have := hs.nsc _ (List.mem_of_getElem? hm) _ (List.getElem_mem hj'); omega)
      simp only [F_ref07_Copy_s2, lt_nat, hj', decide_true, if_true, geti_nat, e4, e5, Option.bind_some, w64_nat (show j ≤ 4611686018427387904 by omega)]
      have : setx m.Slots (j : Int) (Slot.mk m.Slots[j].Kind m.Slots[j].Sections m.Slots[j].Length) = m.Slots := by
        unfold setx
        rw [Int.toNat_natCast]
        exact List.set_getElem_self hj'
      rw [this]) (by simp [F_ref07_Copy_s2]) (by omega)
    have e6 : lim (o ++ [m]) = some (o ++ [m]) := lim_ok (by simp; omega)
    simp only [Int.natCast_zero] at l2
    simp only [F_ref07_Copy_s1, lt_nat, hi, decide_true, if_true, geti_nat, hm, e3, l2, Option.bind_some, w64_nat (show i ≤ 4611686018427387904 by omega), List.length_append, List.length_singleton, hI]
    rw [show Make.mk m.Slots = m from rfl, e6]
    exact ⟨rfl, trivial⟩) (fun o _ => by simp [F_ref07_Copy_s1]) (by omega)
  have e7 : w.Makes.foldl (fun (o : List Make) m => o ++ [m]) [] = w.Makes := by
    have := foldl_append_map (fun m : Make => m) w.Makes []
    simpa using this
  have l1 := l.1
  rw [e7] at l1
  simp only [Int.natCast_zero, id] at l1
  simp only [F_ref07_Copy, e1, e2, l1, Option.bind_some]
end
end Go.Proofs.Yteihdclpiekmaaa
end
section
namespace Go.Proofs.Yteihdclpiekmaaa
open Go Go.RowKit Go.Dec
set_option linter.unusedVariables false
def keyT (t : Trial) : List Int := [t.Spare, t.Make, t.Slot]
theorem free_at {w : Workshop} (h : free w = true) {k i : Nat} {a b : Trial} (hk : w.Table[k]? = some a) (hi : w.Table[i]? = some b) (hki : k < i) (e : keyT a = keyT b) : a.Fits = b.Fits := by
  have hl := (List.getElem?_eq_some_iff.1 hi).1
  have h1 := List.all_eq_true.1 h i (List.mem_range.2 hl)
  have h2 := List.all_eq_true.1 h1 k (List.mem_range.2 hki)
  simp only [keyT, List.cons.injEq, and_true] at e
  simp only [clashAt, hk, hi, clash, e.1, e.2.1, e.2.2, beq_self_eq_true, Bool.true_and, bne, Bool.not_not] at h2
  exact beq_iff_eq.1 h2
section
variable {n : Nat} (hn : 100000000 ≤ n)
include hn
section
variable {w : Workshop} (hs : SmallW w) (hw : WOk w)
include hs hw
theorem p_CheckP (ho : okW w = true) (hf : free w = true) : F_parts_Check n w = some 0 := by
  have h1 := hw.nsp; have h2 := hw.nmk; have h3 := hw.ntb
  have l := loop_fold (step := F_parts_Check_s1 n w) w.Table (fun i (m : Mp) => ((i : Int), m)) (fun m t => mput m (keyT t) t.Fits) (fun _ => (Sum.inr () : Int ⊕ Unit)) (fun i m => Srt m ∧ ∀ q ∈ m, ∃ j t, j < i ∧ w.Table[j]? = some t ∧ q = (keyT t, t.Fits)) (n := n) ([] : Mp) ⟨List.Pairwise.nil, by simp⟩ (fun i t m ht ⟨hS, hM⟩ => by
    have hi := (List.getElem?_eq_some_iff.1 ht).1
    obtain ⟨t1, t2, t3, t4⟩ := hw.tr t (List.mem_of_getElem? ht)
    have k2 := hs.nsl _ (makeAt_mem t2)
    have hk : kok 3 [t.Spare, t.Make, t.Slot] = some () := kok_ok ⟨rfl, fun x hx => by
      simp only [List.mem_cons, List.not_mem_nil, or_false] at hx
      rcases hx with rfl | rfl | rfl <;> omega⟩
    have hno : ((mhas m [t.Spare, t.Make, t.Slot]) && ((mget m [t.Spare, t.Make, t.Slot]) != t.Fits)) = false := by
      cases hh : mhas m [t.Spare, t.Make, t.Slot] with
      | false => rfl
      | true =>
        obtain ⟨v, hv⟩ := mhas_iff.1 hh
        obtain ⟨j, t', hj, ht', e⟩ := hM _ hv
        simp only [Prod.mk.injEq] at e
        have hg := mget_of_mem hS hv
        have := free_at hf ht' ht hj e.1.symm
        rw [hg, e.2, this]
        simp
    simp only [F_parts_Check_s1, lt_nat, hi, decide_true, if_true, geti_nat, ht, Option.bind_some, hk, hno, Bool.false_eq_true, if_false, w64_nat (show i ≤ 4611686018427387904 by omega)]
    refine ⟨rfl, srt_mput hS, fun q hq => ?_⟩
    rcases (mem_mput hS).1 hq with rfl | ⟨hq, _⟩
    · exact ⟨i, t, by omega, ht, rfl⟩
    · obtain ⟨j, t', hj, ht', e⟩ := hM q hq
      exact ⟨j, t', by omega, ht', e⟩) (fun m _ => by simp [F_parts_Check_s1]) (by omega)
  have l1 := l.1
  simp only [Int.natCast_zero] at l1
  simp only [F_parts_Check, p_isWP hn w hs, ho, Option.bind_some, Bool.not_true, Bool.false_eq_true, if_false, l1]
theorem p_open2 {i : Int} (hi : 0 ≤ i ∧ i < w.Spares.length) : loopO n (F_parts_open_s2 n w i (spareAt w i)) ((spareAt w i).Length.Low, ([] : List Int)) = some (allL w i) := by
  have b := hw.sp _ (spareAt_mem hi)
  have h3 := hw.ntb
  have hal : ∀ z : Int, F_parts_all_api_Trial_ n w.Table (fun a0_ => F_parts_open_1 n a0_ i w z) = some (canBe w i z) := fun z =>
    p_allTrial hn w.Table (fun a0_ => F_parts_open_1 n a0_ i w z) (fun t => (t.Spare != i) || (fitsAt w i z t.Make t.Slot == (t.Fits == 1))) (fun t ht => by
      obtain ⟨_, t2, t3, _⟩ := hw.tr t ht
      simp only [F_parts_open_1, p_FitsP hn hs hw hi t2 t3, Option.bind_some, or_br]) (by omega)
  have l := loop_span_fold (step := F_parts_open_s2 n w i (spareAt w i)) (fun (z : Int) (o : List Int) => (z, o)) (fun o z => if canBe w i z = true then o ++ [z] else o) id (fun z o => (o.length : Int) ≤ z - (spareAt w i).Length.Low) (hi := (spareAt w i).Length.High) _ (spareAt w i).Length.Low [] n rfl (by simp) (fun z o h1 h2 hI => by
    simp only [F_parts_open_s2, h2, decide_true, if_true, hal, Option.bind_some]
    rw [w64_id (by omega) (by omega)]
    cases hc : canBe w i z with
    | true =>
      have : lim (o ++ [z]) = some (o ++ [z]) := lim_ok (by simp; omega)
      simp only [if_true, this, Option.bind_some, true_and, List.length_append, List.length_singleton]
      omega
    | false => simp only [Bool.false_eq_true, if_false, Option.bind_some, true_and]; omega) (fun z o h1 h2 _ => by
      have : ¬ z ≤ (spareAt w i).Length.High := by omega
      simp [F_parts_open_s2, this]) (by omega)
  rw [l.1, id, foldl_filter_append, List.nil_append]; rfl
theorem p_open (ho : okW w = true) (hf : free w = true) (hne : ∀ i : Nat, i < w.Spares.length → allL w i ≠ []) : F_parts_open n w true = some (some (parts_shop.mk w ((List.range w.Spares.length).map fun i : Nat => allL w i)), 0) := by
  have h1 := hw.nsp
  have l := loop_fold (step := F_parts_open_s1 n w) (List.range w.Spares.length) (fun i (o : List (List Int)) => ((i : Int), o)) (fun o (i : Nat) => o ++ [allL w i]) (fun o => (Sum.inr o : ((Option parts_shop) × Int) ⊕ (List (List Int)))) (fun i o => o.length = i) (n := n) [] rfl (fun i x o hx hI => by
    have hi := (List.getElem?_eq_some_iff.1 hx).1
    rw [List.length_range] at hi
    rw [List.getElem?_range hi] at hx
    obtain rfl := Option.some.inj hx
    have e1 : geti w.Spares (i : Int) = some (spareAt w i) := getD_geti (by omega) (by omega)
    have e2 : lim (o ++ [allL w i]) = some (o ++ [allL w i]) := lim_ok (by simp; omega)
    have e3 : ((((allL w i).length : Nat) : Int) == 0) = false := by
      cases hl : allL w i with
      | nil => exact absurd hl (hne i hi)
      | cons a r => simp; omega
    simp only [F_parts_open_s1, lt_nat, hi, decide_true, if_true, e1, Option.bind_some, p_open2 hn hs hw (i := (i : Int)) (by omega), e3, Bool.false_eq_true, if_false, e2, w64_nat (show i ≤ 4611686018427387904 by omega), List.length_append, List.length_singleton, hI, and_self]) (fun o _ => by simp [F_parts_open_s1]) (by simp; omega)
  have l1 := l.1
  rw [foldl_append_map (fun i : Nat => allL w i), List.nil_append] at l1
  simp only [Int.natCast_zero] at l1
  simp only [F_parts_open, p_CheckP hn hs hw ho hf, Option.bind_some, bne_self_eq_false, Bool.false_eq_true, if_false, Bool.not_true, l1]
theorem p_Length (ho : okW w = true) (hf : free w = true) (hne : ∀ i : Nat, i < w.Spares.length → allL w i ≠ []) {i : Int} (hi : 0 ≤ i ∧ i < w.Spares.length) :
    ∃ a b, F_parts_Length n w i = some (Span.mk a b, 0) ∧ a ∈ allL w i ∧ b ∈ allL w i ∧ ∀ x ∈ allL w i, a ≤ x ∧ x ≤ b := by
  have h1 := hw.nsp
  have hb := hw.sp _ (spareAt_mem hi)
  obtain ⟨k, rfl⟩ : ∃ k : Nat, i = k := ⟨i.toNat, by omega⟩
  have hk : k < w.Spares.length := by omega
  have hL := hne k hk
  have hpw : (allL w k).Pairwise (fun a b => a < b) := by
    refine List.Pairwise.filter _ ?_
    refine List.pairwise_map.2 (List.pairwise_lt_range.imp fun {a b} h => by omega)
  have hlen : (allL w k).length ≤ 1000 := by
    have := List.length_filter_le (canBe w k) (span (spareAt w k).Length.Low (spareAt w k).Length.High)
    rw [span_len] at this
    unfold allL
    omega
  have e0 : isSp w k = true := wi_t.2 (by omega)
  have e1 : geti ((List.range w.Spares.length).map fun i : Nat => allL w i) (k : Int) = some (allL w k) := by
    rw [geti_nat, List.getElem?_map, List.getElem?_range hk]; rfl
  generalize hl : allL w k = l at *
  have hpos : 0 < l.length := List.length_pos_iff.2 hL
  have e2 : geti l 0 = some l[0] := by
    have := geti_nat l 0
    rw [show ((0 : Nat) : Int) = 0 from rfl] at this
    rw [this, List.getElem?_eq_getElem hpos]
  have e3 : geti l (w64 ((l.length : Int) - 1)) = some l[l.length - 1] := by
    rw [w64_id (by omega) (by omega), show (l.length : Int) - 1 = ((l.length - 1 : Nat) : Int) by omega, geti_nat, List.getElem?_eq_getElem (by omega)]
  refine ⟨l[0], l[l.length - 1], ?_, List.getElem_mem _, List.getElem_mem _, fun x hx => ?_⟩
  · simp only [F_parts_Length, p_isSpP hn w _ (show w.Spares.length ≤ 1000 by omega), e0, Option.bind_some, p_open hn hs hw ho hf hne, bne_self_eq_false, Bool.false_eq_true, if_false, e1, e2, e3]
  · obtain ⟨j, hj, rfl⟩ := List.mem_iff_getElem.1 hx
    rw [List.pairwise_iff_getElem] at hpw
    constructor
    · rcases Nat.eq_zero_or_pos j with rfl | h
      · exact Int.le_refl _
      · exact Int.le_of_lt (hpw 0 j hpos hj h)
    · rcases Nat.lt_or_ge j (l.length - 1) with h | h
      · exact Int.le_of_lt (hpw j (l.length - 1) hj (by omega) h)
      · have : j = l.length - 1 := by omega
        subst this; exact Int.le_refl _
end
end
end Go.Proofs.Yteihdclpiekmaaa
end
section
namespace Go.Dec
open Go Go.RowKit
theorem Kept.plain {H : Hp} {w w' : World} (h : Kept H w w') (hh : H.hole = none) : Below w.heap.size w w' :=
  ⟨h.below.os, h.below.tape, h.below.output, h.below.size, fun k hk => h.below.block k hk (fun I e => by rw [hh] at e; cases e)⟩
end Go.Dec
end
section
namespace Go.Proofs.Yteihdclpiekmaaa
open Go Go.RowKit Go.Dec
set_option linter.unusedVariables false
def W_Span (x : Span) : Prop := I64 x.Low ∧ I64 x.High
set_option maxRecDepth 100000 in
theorem o_Span {T : Type} {enc : TypeId × Value → T} : Opens enc Try.prog 39 2 R_Span W_Span := by
  intro w base sp held fuel cs y h
  obtain ⟨xs, n, _, rfl, hl, hlen, hf⟩ := DataW.trod_struct Try.underlying39 h
  have hl2 : cs.length = 2 := hl.trans (by kernel_rfl)
  have hx : xs.length = 2 := hlen
  obtain ⟨c0, c1, rfl⟩ : ∃ c0 c1, cs = [c0, c1] := by
    match cs, hl2 with
    | [c0, c1], _ => exact ⟨_, _, rfl⟩
  have co3 : Try.prog.cellsOf 3 = 1 := by kernel_rfl
  have e0 : DataW.trod enc Try.prog w base sp held n 3 (([c0, c1].drop 0).take (Try.prog.cellsOf 3)) = xs[0]? := hf 0 _ rfl
  rw [co3] at e0
  obtain ⟨_, x0, r0, w0⟩ := (Opens.int (by kernel_rfl)) _ _ _ _ _ _ _ (e0.trans (List.getElem?_eq_getElem (by omega)))
  have e1 : DataW.trod enc Try.prog w base sp held n 3 (([c0, c1].drop 1).take (Try.prog.cellsOf 3)) = xs[1]? := hf 1 _ rfl
  rw [co3] at e1
  obtain ⟨_, x1, r1, w1⟩ := (Opens.int (by kernel_rfl)) _ _ _ _ _ _ _ (e1.trans (List.getElem?_eq_getElem (by omega)))
  have q0 : [c0] = [_] := r0
  cases q0
  have q1 : [c1] = [_] := r1
  cases q1
  exact ⟨rfl, ⟨x0, x1⟩, rfl, w0, w1⟩
def W_Spare (x : Spare) : Prop := I64 x.Kind ∧ I64 x.Section ∧ W_Span x.Length
set_option maxRecDepth 100000 in
theorem o_Spare {T : Type} {enc : TypeId × Value → T} : Opens enc Try.prog 131 4 R_Spare W_Spare := by
  intro w base sp held fuel cs y h
  obtain ⟨xs, n, _, rfl, hl, hlen, hf⟩ := DataW.trod_struct Try.underlying131 h
  have hl2 : cs.length = 4 := hl.trans (by kernel_rfl)
  have hx : xs.length = 3 := hlen
  obtain ⟨c0, c1, c2, c3, rfl⟩ : ∃ c0 c1 c2 c3, cs = [c0, c1, c2, c3] := by
    match cs, hl2 with
    | [c0, c1, c2, c3], _ => exact ⟨_, _, _, _, rfl⟩
  have co3 : Try.prog.cellsOf 3 = 1 := by kernel_rfl
  have co39 : Try.prog.cellsOf 39 = 2 := by kernel_rfl
  have e0 : DataW.trod enc Try.prog w base sp held n 3 (([c0, c1, c2, c3].drop 0).take (Try.prog.cellsOf 3)) = xs[0]? := hf 0 _ rfl
  rw [co3] at e0
  obtain ⟨_, x0, r0, w0⟩ := (Opens.int (by kernel_rfl)) _ _ _ _ _ _ _ (e0.trans (List.getElem?_eq_getElem (by omega)))
  have e1 : DataW.trod enc Try.prog w base sp held n 3 (([c0, c1, c2, c3].drop 1).take (Try.prog.cellsOf 3)) = xs[1]? := hf 1 _ rfl
  rw [co3] at e1
  obtain ⟨_, x1, r1, w1⟩ := (Opens.int (by kernel_rfl)) _ _ _ _ _ _ _ (e1.trans (List.getElem?_eq_getElem (by omega)))
  have e2 : DataW.trod enc Try.prog w base sp held n 39 (([c0, c1, c2, c3].drop 2).take (Try.prog.cellsOf 39)) = xs[2]? := hf 2 _ rfl
  rw [co39] at e2
  obtain ⟨_, x2, r2, w2⟩ := o_Span _ _ _ _ _ _ _ (e2.trans (List.getElem?_eq_getElem (by omega)))
  have q0 : [c0] = [_] := r0
  cases q0
  have q1 : [c1] = [_] := r1
  cases q1
  have q2 : [c2, c3] = _ := r2
  cases q2
  exact ⟨rfl, ⟨x0, x1, x2⟩, rfl, w0, w1, w2⟩
def W_Slot (x : Slot) : Prop := I64 x.Kind ∧ (fun (l : List Int) => (∀ x ∈ l, I64 x) ∧ l.length ≤ 9223372036854775807) x.Sections ∧ W_Span x.Length
set_option maxRecDepth 100000 in
theorem o_Slot {T : Type} {enc : TypeId × Value → T} : Opens enc Try.prog 129 4 R_Slot W_Slot := by
  intro w base sp held fuel cs y h
  obtain ⟨xs, n, _, rfl, hl, hlen, hf⟩ := DataW.trod_struct Try.underlying129 h
  have hl2 : cs.length = 4 := hl.trans (by kernel_rfl)
  have hx : xs.length = 3 := hlen
  obtain ⟨c0, c1, c2, c3, rfl⟩ : ∃ c0 c1 c2 c3, cs = [c0, c1, c2, c3] := by
    match cs, hl2 with
    | [c0, c1, c2, c3], _ => exact ⟨_, _, _, _, rfl⟩
  have co3 : Try.prog.cellsOf 3 = 1 := by kernel_rfl
  have co23 : Try.prog.cellsOf 23 = 1 := by kernel_rfl
  have co39 : Try.prog.cellsOf 39 = 2 := by kernel_rfl
  have e0 : DataW.trod enc Try.prog w base sp held n 3 (([c0, c1, c2, c3].drop 0).take (Try.prog.cellsOf 3)) = xs[0]? := hf 0 _ rfl
  rw [co3] at e0
  obtain ⟨_, x0, r0, w0⟩ := (Opens.int (by kernel_rfl)) _ _ _ _ _ _ _ (e0.trans (List.getElem?_eq_getElem (by omega)))
  have e1 : DataW.trod enc Try.prog w base sp held n 23 (([c0, c1, c2, c3].drop 1).take (Try.prog.cellsOf 23)) = xs[1]? := hf 1 _ rfl
  rw [co23] at e1
  obtain ⟨_, x1, r1, w1⟩ := (Opens.slice (e := 3) (sz := 1) (by kernel_rfl) (by kernel_rfl) rfl (Opens.int (by kernel_rfl))) _ _ _ _ _ _ _ (e1.trans (List.getElem?_eq_getElem (by omega)))
  have e2 : DataW.trod enc Try.prog w base sp held n 39 (([c0, c1, c2, c3].drop 2).take (Try.prog.cellsOf 39)) = xs[2]? := hf 2 _ rfl
  rw [co39] at e2
  obtain ⟨_, x2, r2, w2⟩ := o_Span _ _ _ _ _ _ _ (e2.trans (List.getElem?_eq_getElem (by omega)))
  have q0 : [c0] = [_] := r0
  cases q0
  obtain ⟨v1, q1, s1⟩ := r1
  have q1 : [c1] = [v1] := q1
  cases q1
  have q2 : [c2, c3] = _ := r2
  cases q2
  exact ⟨rfl, ⟨x0, x1, x2⟩, ⟨c1, rfl, s1⟩, w0, w1, w2⟩
def W_Make (x : Make) : Prop := (fun (l : List Slot) => (∀ x ∈ l, W_Slot x) ∧ l.length ≤ 9223372036854775807) x.Slots
set_option maxRecDepth 100000 in
theorem o_Make {T : Type} {enc : TypeId × Value → T} : Opens enc Try.prog 127 1 R_Make W_Make := by
  intro w base sp held fuel cs y h
  obtain ⟨xs, n, _, rfl, hl, hlen, hf⟩ := DataW.trod_struct Try.underlying127 h
  have hl2 : cs.length = 1 := hl.trans (by kernel_rfl)
  have hx : xs.length = 1 := hlen
  obtain ⟨c0, rfl⟩ : ∃ c0, cs = [c0] := by
    match cs, hl2 with
    | [c0], _ => exact ⟨_, rfl⟩
  have co125 : Try.prog.cellsOf 125 = 1 := by kernel_rfl
  have e0 : DataW.trod enc Try.prog w base sp held n 125 (([c0].drop 0).take (Try.prog.cellsOf 125)) = xs[0]? := hf 0 _ rfl
  rw [co125] at e0
  obtain ⟨_, x0, r0, w0⟩ := (Opens.slice (e := 129) (sz := 4) (by kernel_rfl) (by kernel_rfl) rfl o_Slot) _ _ _ _ _ _ _ (e0.trans (List.getElem?_eq_getElem (by omega)))
  obtain ⟨v0, q0, s0⟩ := r0
  have q0 : [c0] = [v0] := q0
  cases q0
  exact ⟨rfl, ⟨x0⟩, ⟨c0, rfl, s0⟩, w0⟩
def W_Trial (x : Trial) : Prop := I64 x.Spare ∧ I64 x.Make ∧ I64 x.Slot ∧ I64 x.Fits
set_option maxRecDepth 100000 in
theorem o_Trial {T : Type} {enc : TypeId × Value → T} : Opens enc Try.prog 55 4 R_Trial W_Trial := by
  intro w base sp held fuel cs y h
  obtain ⟨xs, n, _, rfl, hl, hlen, hf⟩ := DataW.trod_struct Try.underlying55 h
  have hl2 : cs.length = 4 := hl.trans (by kernel_rfl)
  have hx : xs.length = 4 := hlen
  obtain ⟨c0, c1, c2, c3, rfl⟩ : ∃ c0 c1 c2 c3, cs = [c0, c1, c2, c3] := by
    match cs, hl2 with
    | [c0, c1, c2, c3], _ => exact ⟨_, _, _, _, rfl⟩
  have co3 : Try.prog.cellsOf 3 = 1 := by kernel_rfl
  have e0 : DataW.trod enc Try.prog w base sp held n 3 (([c0, c1, c2, c3].drop 0).take (Try.prog.cellsOf 3)) = xs[0]? := hf 0 _ rfl
  rw [co3] at e0
  obtain ⟨_, x0, r0, w0⟩ := (Opens.int (by kernel_rfl)) _ _ _ _ _ _ _ (e0.trans (List.getElem?_eq_getElem (by omega)))
  have e1 : DataW.trod enc Try.prog w base sp held n 3 (([c0, c1, c2, c3].drop 1).take (Try.prog.cellsOf 3)) = xs[1]? := hf 1 _ rfl
  rw [co3] at e1
  obtain ⟨_, x1, r1, w1⟩ := (Opens.int (by kernel_rfl)) _ _ _ _ _ _ _ (e1.trans (List.getElem?_eq_getElem (by omega)))
  have e2 : DataW.trod enc Try.prog w base sp held n 3 (([c0, c1, c2, c3].drop 2).take (Try.prog.cellsOf 3)) = xs[2]? := hf 2 _ rfl
  rw [co3] at e2
  obtain ⟨_, x2, r2, w2⟩ := (Opens.int (by kernel_rfl)) _ _ _ _ _ _ _ (e2.trans (List.getElem?_eq_getElem (by omega)))
  have e3 : DataW.trod enc Try.prog w base sp held n 3 (([c0, c1, c2, c3].drop 3).take (Try.prog.cellsOf 3)) = xs[3]? := hf 3 _ rfl
  rw [co3] at e3
  obtain ⟨_, x3, r3, w3⟩ := (Opens.int (by kernel_rfl)) _ _ _ _ _ _ _ (e3.trans (List.getElem?_eq_getElem (by omega)))
  have q0 : [c0] = [_] := r0
  cases q0
  have q1 : [c1] = [_] := r1
  cases q1
  have q2 : [c2] = [_] := r2
  cases q2
  have q3 : [c3] = [_] := r3
  cases q3
  exact ⟨rfl, ⟨x0, x1, x2, x3⟩, rfl, w0, w1, w2, w3⟩
def W_Workshop (x : Workshop) : Prop := (fun (l : List Spare) => (∀ x ∈ l, W_Spare x) ∧ l.length ≤ 9223372036854775807) x.Spares ∧ (fun (l : List Make) => (∀ x ∈ l, W_Make x) ∧ l.length ≤ 9223372036854775807) x.Makes ∧ I64 x.Cut ∧ (fun (l : List Trial) => (∀ x ∈ l, W_Trial x) ∧ l.length ≤ 9223372036854775807) x.Table
set_option maxRecDepth 100000 in
theorem o_Workshop {T : Type} {enc : TypeId × Value → T} : Opens enc Try.prog 48 4 R_Workshop W_Workshop := by
  intro w base sp held fuel cs y h
  obtain ⟨xs, n, _, rfl, hl, hlen, hf⟩ := DataW.trod_struct Try.underlying48 h
  have hl2 : cs.length = 4 := hl.trans (by kernel_rfl)
  have hx : xs.length = 4 := hlen
  obtain ⟨c0, c1, c2, c3, rfl⟩ : ∃ c0 c1 c2 c3, cs = [c0, c1, c2, c3] := by
    match cs, hl2 with
    | [c0, c1, c2, c3], _ => exact ⟨_, _, _, _, rfl⟩
  have co3 : Try.prog.cellsOf 3 = 1 := by kernel_rfl
  have co44 : Try.prog.cellsOf 44 = 1 := by kernel_rfl
  have co45 : Try.prog.cellsOf 45 = 1 := by kernel_rfl
  have co46 : Try.prog.cellsOf 46 = 1 := by kernel_rfl
  have e0 : DataW.trod enc Try.prog w base sp held n 44 (([c0, c1, c2, c3].drop 0).take (Try.prog.cellsOf 44)) = xs[0]? := hf 0 _ rfl
  rw [co44] at e0
  obtain ⟨_, x0, r0, w0⟩ := (Opens.slice (e := 131) (sz := 4) (by kernel_rfl) (by kernel_rfl) rfl o_Spare) _ _ _ _ _ _ _ (e0.trans (List.getElem?_eq_getElem (by omega)))
  have e1 : DataW.trod enc Try.prog w base sp held n 45 (([c0, c1, c2, c3].drop 1).take (Try.prog.cellsOf 45)) = xs[1]? := hf 1 _ rfl
  rw [co45] at e1
  obtain ⟨_, x1, r1, w1⟩ := (Opens.slice (e := 127) (sz := 1) (by kernel_rfl) (by kernel_rfl) rfl o_Make) _ _ _ _ _ _ _ (e1.trans (List.getElem?_eq_getElem (by omega)))
  have e2 : DataW.trod enc Try.prog w base sp held n 3 (([c0, c1, c2, c3].drop 2).take (Try.prog.cellsOf 3)) = xs[2]? := hf 2 _ rfl
  rw [co3] at e2
  obtain ⟨_, x2, r2, w2⟩ := (Opens.int (by kernel_rfl)) _ _ _ _ _ _ _ (e2.trans (List.getElem?_eq_getElem (by omega)))
  have e3 : DataW.trod enc Try.prog w base sp held n 46 (([c0, c1, c2, c3].drop 3).take (Try.prog.cellsOf 46)) = xs[3]? := hf 3 _ rfl
  rw [co46] at e3
  obtain ⟨_, x3, r3, w3⟩ := (Opens.slice (e := 55) (sz := 4) (by kernel_rfl) (by kernel_rfl) rfl o_Trial) _ _ _ _ _ _ _ (e3.trans (List.getElem?_eq_getElem (by omega)))
  obtain ⟨v0, q0, s0⟩ := r0
  have q0 : [c0] = [v0] := q0
  cases q0
  obtain ⟨v1, q1, s1⟩ := r1
  have q1 : [c1] = [v1] := q1
  cases q1
  have q2 : [c2] = [_] := r2
  cases q2
  obtain ⟨v3, q3, s3⟩ := r3
  have q3 : [c3] = [v3] := q3
  cases q3
  exact ⟨rfl, ⟨x0, x1, x2, x3⟩, ⟨c0, c1, c3, rfl, s0, s1, s3⟩, w0, w1, w2, w3⟩
def W_Frac (x : Frac) : Prop := I64 x.Num ∧ I64 x.Den
set_option maxRecDepth 100000 in
theorem o_Frac {T : Type} {enc : TypeId × Value → T} : Opens enc Try.prog 51 2 R_Frac W_Frac := by
  intro w base sp held fuel cs y h
  obtain ⟨xs, n, _, rfl, hl, hlen, hf⟩ := DataW.trod_struct Try.underlying51 h
  have hl2 : cs.length = 2 := hl.trans (by kernel_rfl)
  have hx : xs.length = 2 := hlen
  obtain ⟨c0, c1, rfl⟩ : ∃ c0 c1, cs = [c0, c1] := by
    match cs, hl2 with
    | [c0, c1], _ => exact ⟨_, _, rfl⟩
  have co3 : Try.prog.cellsOf 3 = 1 := by kernel_rfl
  have e0 : DataW.trod enc Try.prog w base sp held n 3 (([c0, c1].drop 0).take (Try.prog.cellsOf 3)) = xs[0]? := hf 0 _ rfl
  rw [co3] at e0
  obtain ⟨_, x0, r0, w0⟩ := (Opens.int (by kernel_rfl)) _ _ _ _ _ _ _ (e0.trans (List.getElem?_eq_getElem (by omega)))
  have e1 : DataW.trod enc Try.prog w base sp held n 3 (([c0, c1].drop 1).take (Try.prog.cellsOf 3)) = xs[1]? := hf 1 _ rfl
  rw [co3] at e1
  obtain ⟨_, x1, r1, w1⟩ := (Opens.int (by kernel_rfl)) _ _ _ _ _ _ _ (e1.trans (List.getElem?_eq_getElem (by omega)))
  have q0 : [c0] = [_] := r0
  cases q0
  have q1 : [c1] = [_] := r1
  cases q1
  exact ⟨rfl, ⟨x0, x1⟩, rfl, w0, w1⟩
def W_Section (x : Section) : Prop := W_Span x.Arm ∧ W_Span x.Stretch ∧ I64 x.Base ∧ W_Frac x.Gear
set_option maxRecDepth 100000 in
theorem o_Section {T : Type} {enc : TypeId × Value → T} : Opens enc Try.prog 68 7 R_Section W_Section := by
  intro w base sp held fuel cs y h
  obtain ⟨xs, n, _, rfl, hl, hlen, hf⟩ := DataW.trod_struct Try.underlying68 h
  have hl2 : cs.length = 7 := hl.trans (by kernel_rfl)
  have hx : xs.length = 4 := hlen
  obtain ⟨c0, c1, c2, c3, c4, c5, c6, rfl⟩ : ∃ c0 c1 c2 c3 c4 c5 c6, cs = [c0, c1, c2, c3, c4, c5, c6] := by
    match cs, hl2 with
    | [c0, c1, c2, c3, c4, c5, c6], _ => exact ⟨_, _, _, _, _, _, _, rfl⟩
  have co3 : Try.prog.cellsOf 3 = 1 := by kernel_rfl
  have co39 : Try.prog.cellsOf 39 = 2 := by kernel_rfl
  have co51 : Try.prog.cellsOf 51 = 2 := by kernel_rfl
  have e0 : DataW.trod enc Try.prog w base sp held n 39 (([c0, c1, c2, c3, c4, c5, c6].drop 0).take (Try.prog.cellsOf 39)) = xs[0]? := hf 0 _ rfl
  rw [co39] at e0
  obtain ⟨_, x0, r0, w0⟩ := o_Span _ _ _ _ _ _ _ (e0.trans (List.getElem?_eq_getElem (by omega)))
  have e1 : DataW.trod enc Try.prog w base sp held n 39 (([c0, c1, c2, c3, c4, c5, c6].drop 2).take (Try.prog.cellsOf 39)) = xs[1]? := hf 1 _ rfl
  rw [co39] at e1
  obtain ⟨_, x1, r1, w1⟩ := o_Span _ _ _ _ _ _ _ (e1.trans (List.getElem?_eq_getElem (by omega)))
  have e2 : DataW.trod enc Try.prog w base sp held n 3 (([c0, c1, c2, c3, c4, c5, c6].drop 4).take (Try.prog.cellsOf 3)) = xs[2]? := hf 2 _ rfl
  rw [co3] at e2
  obtain ⟨_, x2, r2, w2⟩ := (Opens.int (by kernel_rfl)) _ _ _ _ _ _ _ (e2.trans (List.getElem?_eq_getElem (by omega)))
  have e3 : DataW.trod enc Try.prog w base sp held n 51 (([c0, c1, c2, c3, c4, c5, c6].drop 5).take (Try.prog.cellsOf 51)) = xs[3]? := hf 3 _ rfl
  rw [co51] at e3
  obtain ⟨_, x3, r3, w3⟩ := o_Frac _ _ _ _ _ _ _ (e3.trans (List.getElem?_eq_getElem (by omega)))
  have q0 : [c0, c1] = _ := r0
  cases q0
  have q1 : [c2, c3] = _ := r1
  cases q1
  have q2 : [c4] = [_] := r2
  cases q2
  have q3 : [c5, c6] = _ := r3
  cases q3
  exact ⟨rfl, ⟨x0, x1, x2, x3⟩, rfl, w0, w1, w2, w3⟩
def W_Frame (x : Frame) : Prop := (fun (l : List Section) => (∀ x ∈ l, W_Section x) ∧ l.length ≤ 9223372036854775807) x.Sections ∧ I64 x.Low ∧ I64 x.High ∧ W_Frac x.Ease ∧ I64 x.Rod ∧ I64 x.Case
set_option maxRecDepth 100000 in
theorem o_Frame {T : Type} {enc : TypeId × Value → T} : Opens enc Try.prog 53 7 R_Frame W_Frame := by
  intro w base sp held fuel cs y h
  obtain ⟨xs, n, _, rfl, hl, hlen, hf⟩ := DataW.trod_struct Try.underlying53 h
  have hl2 : cs.length = 7 := hl.trans (by kernel_rfl)
  have hx : xs.length = 6 := hlen
  obtain ⟨c0, c1, c2, c3, c4, c5, c6, rfl⟩ : ∃ c0 c1 c2 c3 c4 c5 c6, cs = [c0, c1, c2, c3, c4, c5, c6] := by
    match cs, hl2 with
    | [c0, c1, c2, c3, c4, c5, c6], _ => exact ⟨_, _, _, _, _, _, _, rfl⟩
  have co3 : Try.prog.cellsOf 3 = 1 := by kernel_rfl
  have co49 : Try.prog.cellsOf 49 = 1 := by kernel_rfl
  have co51 : Try.prog.cellsOf 51 = 2 := by kernel_rfl
  have e0 : DataW.trod enc Try.prog w base sp held n 49 (([c0, c1, c2, c3, c4, c5, c6].drop 0).take (Try.prog.cellsOf 49)) = xs[0]? := hf 0 _ rfl
  rw [co49] at e0
  obtain ⟨_, x0, r0, w0⟩ := (Opens.slice (e := 68) (sz := 7) (by kernel_rfl) (by kernel_rfl) rfl o_Section) _ _ _ _ _ _ _ (e0.trans (List.getElem?_eq_getElem (by omega)))
  have e1 : DataW.trod enc Try.prog w base sp held n 3 (([c0, c1, c2, c3, c4, c5, c6].drop 1).take (Try.prog.cellsOf 3)) = xs[1]? := hf 1 _ rfl
  rw [co3] at e1
  obtain ⟨_, x1, r1, w1⟩ := (Opens.int (by kernel_rfl)) _ _ _ _ _ _ _ (e1.trans (List.getElem?_eq_getElem (by omega)))
  have e2 : DataW.trod enc Try.prog w base sp held n 3 (([c0, c1, c2, c3, c4, c5, c6].drop 2).take (Try.prog.cellsOf 3)) = xs[2]? := hf 2 _ rfl
  rw [co3] at e2
  obtain ⟨_, x2, r2, w2⟩ := (Opens.int (by kernel_rfl)) _ _ _ _ _ _ _ (e2.trans (List.getElem?_eq_getElem (by omega)))
  have e3 : DataW.trod enc Try.prog w base sp held n 51 (([c0, c1, c2, c3, c4, c5, c6].drop 3).take (Try.prog.cellsOf 51)) = xs[3]? := hf 3 _ rfl
  rw [co51] at e3
  obtain ⟨_, x3, r3, w3⟩ := o_Frac _ _ _ _ _ _ _ (e3.trans (List.getElem?_eq_getElem (by omega)))
  have e4 : DataW.trod enc Try.prog w base sp held n 3 (([c0, c1, c2, c3, c4, c5, c6].drop 5).take (Try.prog.cellsOf 3)) = xs[4]? := hf 4 _ rfl
  rw [co3] at e4
  obtain ⟨_, x4, r4, w4⟩ := (Opens.int (by kernel_rfl)) _ _ _ _ _ _ _ (e4.trans (List.getElem?_eq_getElem (by omega)))
  have e5 : DataW.trod enc Try.prog w base sp held n 3 (([c0, c1, c2, c3, c4, c5, c6].drop 6).take (Try.prog.cellsOf 3)) = xs[5]? := hf 5 _ rfl
  rw [co3] at e5
  obtain ⟨_, x5, r5, w5⟩ := (Opens.int (by kernel_rfl)) _ _ _ _ _ _ _ (e5.trans (List.getElem?_eq_getElem (by omega)))
  obtain ⟨v0, q0, s0⟩ := r0
  have q0 : [c0] = [v0] := q0
  cases q0
  have q1 : [c1] = [_] := r1
  cases q1
  have q2 : [c2] = [_] := r2
  cases q2
  have q3 : [c3, c4] = _ := r3
  cases q3
  have q4 : [c5] = [_] := r4
  cases q4
  have q5 : [c6] = [_] := r5
  cases q5
  exact ⟨rfl, ⟨x0, x1, x2, x3, x4, x5⟩, ⟨c0, rfl, s0⟩, w0, w1, w2, w3, w4, w5⟩
def W_top_Fitting (x : top_Fitting) : Prop := I64 x.Spare ∧ I64 x.Section ∧ W_Trial x.Trial
set_option maxRecDepth 100000 in
theorem o_top_Fitting {T : Type} {enc : TypeId × Value → T} : Opens enc Try.prog 57 6 R_top_Fitting W_top_Fitting := by
  intro w base sp held fuel cs y h
  obtain ⟨xs, n, _, rfl, hl, hlen, hf⟩ := DataW.trod_struct Try.underlying57 h
  have hl2 : cs.length = 6 := hl.trans (by kernel_rfl)
  have hx : xs.length = 3 := hlen
  obtain ⟨c0, c1, c2, c3, c4, c5, rfl⟩ : ∃ c0 c1 c2 c3 c4 c5, cs = [c0, c1, c2, c3, c4, c5] := by
    match cs, hl2 with
    | [c0, c1, c2, c3, c4, c5], _ => exact ⟨_, _, _, _, _, _, rfl⟩
  have co3 : Try.prog.cellsOf 3 = 1 := by kernel_rfl
  have co55 : Try.prog.cellsOf 55 = 4 := by kernel_rfl
  have e0 : DataW.trod enc Try.prog w base sp held n 3 (([c0, c1, c2, c3, c4, c5].drop 0).take (Try.prog.cellsOf 3)) = xs[0]? := hf 0 _ rfl
  rw [co3] at e0
  obtain ⟨_, x0, r0, w0⟩ := (Opens.int (by kernel_rfl)) _ _ _ _ _ _ _ (e0.trans (List.getElem?_eq_getElem (by omega)))
  have e1 : DataW.trod enc Try.prog w base sp held n 3 (([c0, c1, c2, c3, c4, c5].drop 1).take (Try.prog.cellsOf 3)) = xs[1]? := hf 1 _ rfl
  rw [co3] at e1
  obtain ⟨_, x1, r1, w1⟩ := (Opens.int (by kernel_rfl)) _ _ _ _ _ _ _ (e1.trans (List.getElem?_eq_getElem (by omega)))
  have e2 : DataW.trod enc Try.prog w base sp held n 55 (([c0, c1, c2, c3, c4, c5].drop 2).take (Try.prog.cellsOf 55)) = xs[2]? := hf 2 _ rfl
  rw [co55] at e2
  obtain ⟨_, x2, r2, w2⟩ := o_Trial _ _ _ _ _ _ _ (e2.trans (List.getElem?_eq_getElem (by omega)))
  have q0 : [c0] = [_] := r0
  cases q0
  have q1 : [c1] = [_] := r1
  cases q1
  have q2 : [c2, c3, c4, c5] = _ := r2
  cases q2
  exact ⟨rfl, ⟨x0, x1, x2⟩, rfl, w0, w1, w2⟩
end Go.Proofs.Yteihdclpiekmaaa
end
