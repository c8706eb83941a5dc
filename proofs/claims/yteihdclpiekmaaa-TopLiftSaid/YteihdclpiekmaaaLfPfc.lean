/-
  The plain layer of the reference of frames.
-/
import Derived.Test.YteihdclpiekmaaaLfPfb
namespace Go.Proofs.Yteihdclpiekmaaa
open Go Go.RowKit Go.Dec
set_option linter.unusedVariables false

theorem knownI_one {so all : Nat} : knownI so all = 1 ↔ so = all := by
  unfold knownI
  by_cases h : so = all
  · subst h; simp
  · have : ((so : Int) == (all : Int)) = false := by simp; omega
    rw [this]
    by_cases h0 : so = 0
    · subst h0; simp [h]
    · have : ((so : Int) == 0) = false := by simp; omega
      rw [this]; simp [h]
theorem knownI_two {so all : Nat} (h1 : 1 ≤ all) : knownI so all = 2 ↔ so = 0 := by
  unfold knownI
  by_cases h : so = all
  · have : ((so : Int) == (all : Int)) = true := by simp; omega
    rw [this]; simp; omega
  · have : ((so : Int) == (all : Int)) = false := by simp; omega
    rw [this]
    by_cases h0 : so = 0
    · subst h0; simp
    · have : ((so : Int) == 0) = false := by simp; omega
      rw [this]; simp [h0]
theorem knownI_three {so all : Nat} : knownI so all = 3 ↔ so ≠ all ∧ so ≠ 0 := by
  unfold knownI
  by_cases h : so = all
  · have : ((so : Int) == (all : Int)) = true := by simp; omega
    rw [this]; simp [h]
  · have : ((so : Int) == (all : Int)) = false := by simp; omega
    rw [this]
    by_cases h0 : so = 0
    · subst h0; simp
    · have : ((so : Int) == 0) = false := by simp; omega
      rw [this]; simp [h0, h]
theorem knownI_mem {so all : Nat} : knownI so all = 1 ∨ knownI so all = 2 ∨ knownI so all = 3 := by
  unfold knownI; split
  · exact .inl rfl
  · split
    · exact .inr (.inl rfl)
    · exact .inr (.inr rfl)
theorem sides_pos {s : Section} (hs : SecOk s) : 1 ≤ (sidesL s).length := by
  have := sides_ne hs
  cases h : sidesL s with
  | nil => exact absurd h this
  | cons a l => simp
theorem p_within01 (n : Nat) (a b c : Int) : F_ref01_Within n a b c = some (wi a b c) := rfl
theorem frac_b {x : Frac} (h : FracOk x) : -40000000 ≤ x.Num ∧ x.Num ≤ 40000000 ∧ 0 ≤ x.Den ∧ x.Den ≤ 24000000 := ⟨h.2.1, h.2.2, by have := h.1.1; omega, h.1.2⟩
section
variable {n : Nat} (hn : 100000000 ≤ n)
include hn
theorem p_Check01 {f : Frame} (hl : f.Sections.length ≤ 1000) : F_ref01_Check n f = some (if okF f = true then 0 else 10) := by
  have h1 := loop_all_l (step := F_ref01_Check_s1 n f) f.Sections okSec (10 : Int) (n := n) (by omega) (fun i x hx hi => by
    simp only [F_ref01_Check_s1, F_ref01_isLong, F_ref01_isShare, geti_nat, hx, Option.bind_some, p_within01, and_br, or_br, lt_nat, hi, decide_true, if_true, w64_nat (show i ≤ 4611686018427387904 by omega)]
    have e : (!(wi x.Arm.Low 1 x.Arm.High && decide (x.Arm.High ≤ 2000) && decide (w64 (x.Arm.High - x.Arm.Low) ≤ 6)) || !(wi x.Stretch.Low 1 x.Stretch.High && decide (x.Stretch.High ≤ 2000) && decide (w64 (x.Stretch.High - x.Stretch.Low) ≤ 6)) || !wi x.Base 0 2000 || !(wi x.Gear.Den 1 20 && wi x.Gear.Num 0 x.Gear.Den)) = !okSec x := by
      simp only [okSec, okSpan, okShare, Bool.not_and, Bool.or_assoc]
    rw [e]
    cases okSec x <;> rfl) (by simp [F_ref01_Check_s1]) (by omega)
  simp only [F_ref01_Check, h1, Option.bind_some]
  cases ha : f.Sections.all okSec with
  | false =>
    have : okF f = false := by simp [okF, ha]
    rw [this]; rfl
  | true =>
    simp only [cond_true, F_ref01_isShare, p_within01, Option.bind_some, and_br, or_br]
    have e : (!wi f.Sections.length 1 3 || !wi f.Low 1 f.High || decide (2000 < f.High) || decide (200 < w64 (f.High - f.Low)) || !(wi f.Ease.Den 1 20 && wi f.Ease.Num 0 f.Ease.Den) || !wi f.Rod 0 4000 || !wi f.Case 0 4000) = !okF f := by
      simp only [okF, okShare, ha, Bool.not_and, Bool.or_assoc, Bool.not_true, Bool.false_or, ← decide_not, Int.not_le]
    rw [e]
    cases okF f <;> rfl
theorem low_red {d : Int} (hd : 1 ≤ d ∧ d ≤ 6000) : ∀ (l : List frames_sides) (m m' : Frac), (∀ x ∈ l, XOk x) → FracOk m → FracOk m' →
    l.foldl (fun m x => if ltF (red (cosF d x)) m = true then red (cosF d x) else m) (red m) = red (l.foldl (fun m x => if ltF (cosF d x) m = true then cosF d x else m) m) ∧
    l.foldl (fun m x => if ltF m (red (cosF d x)) = true then red (cosF d x) else m) (red m') = red (l.foldl (fun m x => if ltF m (cosF d x) = true then cosF d x else m) m') := by
  have _hn := hn
  intro l
  induction l with
  | nil => intro m m' _ _ _; exact ⟨rfl, rfl⟩
  | cons b l ih =>
    intro m m' hx h1 h2
    have hb := (cos_ok hd (hx b (List.mem_cons_self ..))).1
    simp only [List.foldl_cons]
    rw [ltF_red hb.1.1 h1.1.1, ltF_red h2.1.1 hb.1.1]
    have := ih (if ltF (cosF d b) m = true then cosF d b else m) (if ltF m' (cosF d b) = true then cosF d b else m') (fun x h => hx x (List.mem_cons_of_mem _ h)) (by split <;> assumption) (by split <;> assumption)
    rw [← this.1, ← this.2]
    constructor
    · congr 1; split <;> rfl
    · congr 1; split <;> rfl
end
end Go.Proofs.Yteihdclpiekmaaa
