/-
  Gusts, plain: the reference's answers; the small functions of the statements.
-/
import Derived.Test.YteihdclpiekmaaaLfPge
namespace Go.Proofs.Yteihdclpiekmaaa
open Go Go.RowKit Go.Dec
set_option linter.unusedVariables false

section
variable {n : Nat} (hn : 100000000 ≤ n)
include hn
/-! ### the small functions of the statements -/
omit hn in
theorem listS_len {N : Nat} (hN : N ≤ 10) (p : Nat → Bool) : (listS N p).length ≤ N := by
  unfold listS
  rw [List.length_map]
  exact Nat.le_trans (List.length_filter_le _ _) (by simp)
omit hn in
theorem listS_mem {N : Nat} {p : Nat → Bool} {j : Nat} : (listS N p).contains (j : Int) = (decide (j < N) && p j) := by
  rw [Bool.eq_iff_iff]
  simp only [List.contains_eq_mem, decide_eq_true_eq, Bool.and_eq_true, listS, List.mem_map, List.mem_filter, List.mem_range]
  constructor
  · rintro ⟨a, h, e⟩
    have : a = j := by omega
    subst this; exact h
  · intro h; exact ⟨j, h, rfl⟩
omit hn in
theorem listS_sub {N : Nat} {p q : Nat → Bool} (h : ∀ j, j < N → p j = true → q j = true) : ((listS N p).all fun x => (listS N q).contains x) = true := by
  refine List.all_eq_true.2 fun x hx => ?_
  obtain ⟨j, hj, rfl⟩ := List.mem_map.1 hx
  obtain ⟨h1, h2⟩ := List.mem_filter.1 hj
  have h1 := List.mem_range.1 h1
  rw [listS_mem, h j h1 h2]; simp [h1]
theorem p_Far (d : Canopy) : F_law05_Far n d = some true ∨ (F_law05_Far n d = some false ∧ Small d ∧ d.Frame.Sections.length ≤ 20 ∧ d.Ribs.length ≤ 40 ∧ d.Shares.length ≤ 40) := by
  have _hn := hn
  unfold F_law05_Far
  by_cases h1 : 20 < (d.Frame.Sections.length : Int)
  · simp [h1]
  · by_cases h2 : 40 < (d.Ribs.length : Int)
    · simp [h2]
    · by_cases h3 : 40 < (d.Shares.length : Int)
      · simp [h3]
      · right
        refine ⟨by simp [h1, h2, h3], ⟨by omega, by omega, by omega⟩, by omega, by omega, by omega⟩
end
def exD : Canopy := ⟨⟨[⟨⟨50, 52⟩, ⟨60, 60⟩, 0, ⟨1, 1⟩⟩, ⟨⟨40, 40⟩, ⟨45, 46⟩, 5, ⟨1, 2⟩⟩], 20, 100, ⟨1, 20⟩, 300, 351⟩, [⟨100, 110⟩, ⟨60, 60⟩, ⟨50, 55⟩, ⟨40, 40⟩, ⟨50, 50⟩, ⟨60, 60⟩], [10, 6, 3, 1, 3, 6]⟩
set_option maxRecDepth 1000000 in
theorem ex_lift : liftT exD = (⟨65, 76⟩, 0) := by kernel_rfl
set_option maxRecDepth 1000000 in
theorem ex_goes : goesT exD ⟨14, 0⟩ = ((goesT exD ⟨14, 0⟩).1, [0, 1, 2, 3, 4, 5], 0) := by kernel_rfl
set_option maxRecDepth 1000000 in
theorem ex_most : mostT exD 0 = (13, 0) := by kernel_rfl
set_option maxRecDepth 1000000 in
theorem ex_weak : weakT exD [⟨12, 0⟩, ⟨14, 0⟩] = ([0, 1, 5], 0) := by kernel_rfl
end Go.Proofs.Yteihdclpiekmaaa
