/-
  The plain layer of the reference of frames: what holds at all positions; what the laws use.
-/
import Derived.Test.YteihdclpiekmaaaLfPfc
namespace Go.Proofs.Yteihdclpiekmaaa
open Go Go.RowKit Go.Dec
set_option linter.unusedVariables false

theorem span_down_all {p : Int → Bool} {a b : Int} : (span a b).all (fun r => !p r) = !(down b a).any p := by
  rw [Bool.eq_iff_iff]
  simp only [List.all_eq_true, Bool.not_eq_true', ← Bool.not_eq_true, List.any_eq_true, not_exists, not_and, span_mem', down_mem]
theorem countP_not {α : Type} (p : α → Bool) (l : List α) : l.countP (fun x => !p x) + l.countP p = l.length := by
  have := List.length_eq_countP_add_countP p (l := l)
  simp only [Bool.not_eq_true] at this
  have e : l.countP (fun x => !p x) = l.countP (fun x => decide (p x = false)) := by
    apply List.countP_congr
    intro x _; cases p x <;> simp
  omega
section
variable {n : Nat} (hn : 100000000 ≤ n)
include hn
theorem free_known {f : Frame} (hf : FOk f) {i : Nat} (hi : i < f.Sections.length) : (((sidesL (secAt f i)).countP (fun x => !stuckP f i x) = 0 ↔ stuckI f i = 1)) ∧ ((sidesL (secAt f i)).countP (fun x => !stuckP f i x) ≠ (sidesL (secAt f i)).length ∧ (sidesL (secAt f i)).countP (fun x => !stuckP f i x) ≠ 0 ↔ stuckI f i = 3) := by
  have _hn := hn
  have hc := countP_not (stuckP f i) (sidesL (secAt f i))
  have hp := sides_pos (hf.s _ (secAt_mem hi))
  unfold stuckI K
  rw [knownI_one, knownI_three]
  omega
/-- what a statement examines -/
def Ok (f : Frame) : Prop := okF f = true ∧ f.High - f.Low < 60
end
theorem blame_len (f : Frame) (h : f.Sections.length ≤ 1000) : (blameT f).1.length ≤ 10000 := by
  unfold blameT
  split
  · simp only [blameL, List.length_map]
    have := List.length_filter_le (fun i => stuckI f i == 1) (List.range f.Sections.length)
    rw [List.length_range] at this
    omega
  · simp
end Go.Proofs.Yteihdclpiekmaaa
