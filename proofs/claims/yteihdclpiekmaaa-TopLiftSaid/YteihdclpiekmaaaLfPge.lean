/-
  Gusts, plain: the reference's rounds and answers.
-/
import Derived.Test.YteihdclpiekmaaaLfPgd
namespace Go.Proofs.Yteihdclpiekmaaa
open Go Go.RowKit Go.Dec
set_option linter.unusedVariables false

def lst {α : Type} (N : Nat) (f : Nat → α) : List α := (List.range N).map f
theorem lst_len {α : Type} (N : Nat) (f : Nat → α) : (lst N f).length = N := by simp [lst]
theorem lst_get {α : Type} {N : Nat} (f : Nat → α) {i : Nat} (h : i < N) : (lst N f)[i]? = some (f i) := by simp [lst, h]
def part {α : Type} (N i : Nat) (f g : Nat → α) : List α := lst N fun j => if j < i then f j else g j
theorem part_zero {α : Type} (N : Nat) (f g : Nat → α) : part N 0 f g = lst N g := by simp [part]
theorem part_all {α : Type} (N : Nat) (f g : Nat → α) : part N N f g = lst N f := by
  unfold part lst
  refine List.map_congr_left fun j hj => ?_
  rw [if_pos (List.mem_range.1 hj)]
theorem part_get {α : Type} {N i : Nat} (f g : Nat → α) (h : i < N) : (part N i f g)[i]? = some (g i) := by
  unfold part; rw [lst_get _ h]; simp
theorem part_set {α : Type} {N i : Nat} (f g : Nat → α) (h : i < N) {y : α} (hy : y = f i) : setx (part N i f g) (i : Int) y = part N (i + 1) f g := by
  subst hy
  unfold setx part lst
  refine List.ext_getElem (by simp) fun j h1 h2 => ?_
  simp only [List.getElem_set, List.getElem_map, List.getElem_range, Int.toNat_natCast]
  by_cases hij : i = j
  · subst hij; simp
  · rw [if_neg hij]
    by_cases hj : j < i
    · rw [if_pos hj, if_pos (by omega)]
    · rw [if_neg hj, if_neg (by omega)]
theorem part_skip {α : Type} {N i : Nat} (f g : Nat → α) (h : f i = g i) : part N i f g = part N (i + 1) f g := by
  unfold part lst
  refine List.map_congr_left fun j hj => ?_
  by_cases hij : j = i
  · subst hij; simp [h]
  · by_cases hj : j < i
    · rw [if_pos hj, if_pos (by omega)]
    · rw [if_neg hj, if_neg (by omega)]
theorem lst_repl {α : Type} (N : Nat) (x : α) : List.replicate N x = lst N fun _ => x := by
  refine List.ext_getElem (by simp [lst]) fun j h1 h2 => by simp [lst]
theorem idx_fwd {N i k : Nat} (hN : N ≤ 10) (hi : i < N) (h1 : 1 ≤ k) (h2 : k < N) : (w64 (((w64 ((i : Int) + w64 ((k : Int) * 1))).tmod (N : Int)) + (N : Int))).tmod (N : Int) = (((i + k * 1) % N : Nat) : Int) := by
  rw [Int.mul_one, w64_id (n := (k : Int)) (by omega) (by omega), w64_id (n := (i : Int) + k) (by omega) (by omega)]
  have e1 : (i : Int) + (k : Int) = ((i + k : Nat) : Int) := by omega
  have := Nat.mod_lt (i + k) (show 0 < N by omega)
  rw [e1, tmod_nat, w64_id (by omega) (by omega)]
  have e2 : (((i + k) % N : Nat) : Int) + (N : Int) = (((i + k) % N + N : Nat) : Int) := by omega
  rw [e2, tmod_nat, Nat.add_mod_right, Nat.mod_mod, Nat.mul_one]
theorem idx_bwd {N i k : Nat} (hN : N ≤ 10) (hi : i < N) (h1 : 1 ≤ k) (h2 : k < N) : (w64 (((w64 ((i : Int) + w64 ((k : Int) * (-1)))).tmod (N : Int)) + (N : Int))).tmod (N : Int) = (((i + k * (N - 1)) % N : Nat) : Int) := by
  rw [back_mod hi (by omega)]
  have e0 : (k : Int) * (-1) = -(k : Int) := by omega
  rw [e0, w64_id (n := -(k : Int)) (by omega) (by omega), w64_id (n := (i : Int) + -(k : Int)) (by omega) (by omega)]
  by_cases h : k ≤ i
  · have e1 : (i : Int) + -(k : Int) = ((i - k : Nat) : Int) := by omega
    have hm : (i - k) % N = i - k := Nat.mod_eq_of_lt (by omega)
    rw [e1, tmod_nat, hm, w64_id (by omega) (by omega)]
    have e2 : ((i - k : Nat) : Int) + (N : Int) = ((i + N - k : Nat) : Int) := by omega
    rw [e2, tmod_nat]
  · have e1 : (i : Int) + -(k : Int) = -((k - i : Nat) : Int) := by omega
    have hm : (k - i) % N = k - i := Nat.mod_eq_of_lt (by omega)
    rw [e1, Int.neg_tmod, tmod_nat, hm, w64_id (by omega) (by omega)]
    have e2 : -((k - i : Nat) : Int) + (N : Int) = ((i + N - k : Nat) : Int) := by omega
    rw [e2, tmod_nat]
section
variable {n : Nat} (hn : 100000000 ≤ n)
include hn
end

/-! ### the round in which each rib goes -/
def rnd (L S : Nat → Int) (N : Nat) : Nat → Nat → Int
  | 0, _ => 0
  | r + 1, j => if (!G L S N r j && decide (S j < bearsS L (G L S N r) N j)) = true then ((r + 1 : Nat) : Int) else rnd L S N r j
theorem G_succ {L S : Nat → Int} {N r j : Nat} (hj : j < N) : G L S N (r + 1) j = (G L S N r j || decide (S j < bearsS L (G L S N r) N j)) := by
  show stepS L S N (G L S N r) j = _
  simp [stepS, hj]
theorem rnd_spec {L S : Nat → Int} {N j : Nat} (hj : j < N) : ∀ r, (G L S N r j = false → rnd L S N r j = 0) ∧ (G L S N r j = true → 1 ≤ rnd L S N r j ∧ rnd L S N r j ≤ r)
  | 0 => by simp [G, rnd]
  | r + 1 => by
    obtain ⟨h1, h2⟩ := rnd_spec (L := L) (S := S) hj r
    rw [G_succ hj, rnd]
    cases hg : G L S N r j
    · cases hc : decide (S j < bearsS L (G L S N r) N j)
      · simp [h1 hg]
      · simp; omega
    · have := h2 hg
      simp; omega
theorem rnd_one {L S : Nat → Int} {N j : Nat} (hj : j < N) : ∀ r, (rnd L S N (r + 1) j = 1 ↔ G L S N 1 j = true)
  | 0 => by
    rw [G_succ hj, rnd]
    have h0 : G L S N 0 j = false := rfl
    rw [h0]
    cases decide (S j < bearsS L (G L S N 0) N j) <;> simp [rnd]
  | r + 1 => by
    rw [rnd]
    split
    · rename_i h
      simp only [Bool.and_eq_true, Bool.not_eq_true'] at h
      constructor
      · intro h2; exfalso; push_cast at h2; omega
      · intro h2
        have := G_le (show 1 ≤ r + 1 by omega) h2
        rw [h.1] at this; simp at this
    · exact rnd_one hj r
theorem rnd_wi {L S : Nat → Int} {N j : Nat} (hj : j < N) : wi (rnd L S N N j) 1 N = G L S N N j := by
  have := rnd_spec (L := L) (S := S) hj N
  cases hg : G L S N N j
  · rw [this.1 hg]; simp [wi]
  · have := this.2 hg
    simp [wi]; omega
theorem rnd_wi1 {L S : Nat → Int} {N j : Nat} (hj : j < N) : wi (rnd L S N N j) 1 1 = G L S N 1 j := by
  obtain ⟨M, rfl⟩ : ∃ M, N = M + 1 := ⟨N - 1, by omega⟩
  have := rnd_one (L := L) (S := S) hj M
  cases hg : G L S (M + 1) 1 j
  · rw [hg] at this
    have h : rnd L S (M + 1) (M + 1) j ≠ 1 := fun h => by simpa using this.1 h
    simp [wi]; omega
  · rw [hg] at this
    simp [wi, this.2 rfl]
theorem none_G {L S : Nat → Int} {N : Nat} (hN : 0 < N) : noneP N (G L S N N) = noneP N (G L S N 1) := by
  rw [Bool.eq_iff_iff, noneP_iff, noneP_iff]
  constructor
  · intro h i hi
    cases hg : G L S N 1 i
    · rfl
    · have := G_le (show 1 ≤ N by omega) hg
      rw [h i hi] at this; simp at this
  · intro h i hi
    have hf : fixd L S N 0 := fun j hj => h j hj
    rw [(fixd_le hN (Nat.zero_le N) hf).2 i hi]; rfl
theorem listS_congr {N : Nat} {p q : Nat → Bool} (h : ∀ j, j < N → p j = q j) : listS N p = listS N q := by
  unfold listS
  congr 1
  exact List.filter_congr fun j hj => h j (List.mem_range.1 hj)
theorem listS_none {N : Nat} {p : Nat → Bool} : (decide (0 < ((listS N p).length : Int))) = !noneP N p := by
  rw [Bool.eq_iff_iff]
  simp only [decide_eq_true_eq, Bool.not_eq_true', listS, List.length_map]
  constructor
  · intro h
    obtain ⟨j, hj⟩ := List.exists_mem_of_length_pos (show 0 < ((List.range N).filter p).length by omega)
    have := List.mem_filter.1 hj
    cases hc : noneP N p
    · rfl
    · have h2 := noneP_iff.1 hc j (List.mem_range.1 this.1)
      rw [this.2] at h2; simp at h2
  · intro h
    have : 0 < ((List.range N).filter p).length := by
      refine List.length_pos_iff_exists_mem.2 (Classical.byContradiction fun hc => ?_)
      have : noneP N p = true := noneP_iff.2 fun j hj => by
        cases hp : p j
        · rfl
        · exact absurd ⟨j, List.mem_filter.2 ⟨List.mem_range.2 hj, hp⟩⟩ hc
      rw [h] at this; simp at this
    omega
section
variable {n : Nat} (hn : 100000000 ≤ n)
include hn
end
end Go.Proofs.Yteihdclpiekmaaa
