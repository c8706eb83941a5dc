/-
  Gusts, plain: the greatest force, the weak ribs; the reference's loads and rounds.
-/
import Derived.Test.YteihdclpiekmaaaLfPgc
namespace Go.Proofs.Yteihdclpiekmaaa
open Go Go.RowKit Go.Dec
set_option linter.unusedVariables false

theorem tdiv100_mono {a b : Int} (h0 : 0 ≤ a) (h : a ≤ b) : a.tdiv 100 ≤ b.tdiv 100 := by
  rw [Int.tdiv_eq_ediv_of_nonneg h0, Int.tdiv_eq_ediv_of_nonneg (by omega)]; omega
theorem load_mono {l l' : Int} (h0 : 0 ≤ l) (hl : l ≤ l') {sh : List Int} (hs : ∀ x ∈ sh, 0 ≤ x ∧ x ≤ 99) {g g' : Gust} (hat : g.At = g'.At) (hf0 : 0 ≤ g.Force) (hf : g.Force ≤ g'.Force) (h : 0 < sh.length) (i : Nat) : 0 ≤ loadS l sh g i ∧ loadS l sh g i ≤ loadS l' sh g' i := by
  have e : shareS sh g' i = shareS sh g i := by unfold shareS; rw [hat]
  have hsh := share_in hs (g := g) h i
  have h1 : 0 ≤ g.Force * l := Int.mul_nonneg hf0 h0
  have h2 : g.Force * l ≤ g'.Force * l' := Int.mul_le_mul hf hl h0 (by omega)
  have h3 : 0 ≤ g.Force * l * shareS sh g i := Int.mul_nonneg h1 hsh.1
  have h4 : g.Force * l * shareS sh g i ≤ g'.Force * l' * shareS sh g i := Int.mul_le_mul_of_nonneg_right h2 hsh.1
  unfold loadS
  rw [e]
  refine ⟨?_, tdiv100_mono h3 h4⟩
  rw [Int.tdiv_eq_ediv_of_nonneg h3]; omega
theorem firstP_eq {d : Canopy} {g : Gust} {i : Nat} : firstP d g i = (decide (i < d.Ribs.length) && decide (stW d i < ldW d g i)) := G_one
theorem firstB_eq {d : Canopy} {g : Gust} {i : Nat} : firstB d g i = (decide (i < d.Ribs.length) && decide (stB d i < ldB d g i)) := G_one
theorem stW_get {d : Canopy} {i : Nat} {s : Span} (h : d.Ribs[i]? = some s) : stW d i = s.Low := by simp [stW, h]
theorem stB_get {d : Canopy} {i : Nat} {s : Span} (h : d.Ribs[i]? = some s) : stB d i = s.High := by simp [stB, h]
theorem rib_get {d : Canopy} {i : Nat} (h : i < d.Ribs.length) : ∃ s, d.Ribs[i]? = some s ∧ s ∈ d.Ribs := ⟨d.Ribs[i], List.getElem?_eq_getElem h, List.getElem_mem h⟩
theorem st_in {d : Canopy} (hd : DOk d) {i : Nat} (h : i < d.Ribs.length) : 0 ≤ stW d i ∧ stW d i ≤ stB d i ∧ stB d i ≤ 99999 := by
  obtain ⟨s, h1, h2⟩ := rib_get h
  rw [stW_get h1, stB_get h1]
  exact hd.ribs s h2
theorem sh_pos {d : Canopy} (hd : DOk d) : 0 < d.Shares.length := by have := hd.s; have := hd.r; omega

/-! ### the greatest force -/
theorem most_exists (p : Nat → Bool) (h0 : p 0 = true) (hm : ∀ k, p (k + 1) = true → p k = true) : ∀ K, ∃ M, M ≤ K ∧ ∀ f, f ≤ K → p f = decide (f ≤ M)
  | 0 => ⟨0, Nat.le_refl _, fun f hf => by rw [Nat.le_zero.1 hf, h0]; simp⟩
  | K + 1 => by
    obtain ⟨M, h1, h2⟩ := most_exists p h0 hm K
    by_cases hp : p (K + 1) = true
    · have hk := hm K hp
      have := h2 K (Nat.le_refl _)
      rw [hk] at this
      have hM : K ≤ M := by simpa using this.symm
      refine ⟨K + 1, Nat.le_refl _, fun f hf => ?_⟩
      by_cases hfk : f ≤ K
      · rw [h2 f hfk]; simp; omega
      · have : f = K + 1 := by omega
        subst this; simp [hp]
    · refine ⟨M, by omega, fun f hf => ?_⟩
      by_cases hfk : f ≤ K
      · exact h2 f hfk
      · have : f = K + 1 := by omega
        subst this
        simp only [Bool.not_eq_true] at hp
        rw [hp]; simp; omega
theorem most_fold (p : Nat → Bool) {M K : Nat} (h2 : ∀ f, f ≤ K → p f = decide (f ≤ M)) : ∀ k, k ≤ K → (List.range (k + 1)).foldl (fun m f => if p f = true then f else m) 0 = min k M
  | 0, h => by
    show (if p 0 = true then 0 else 0) = _
    split <;> omega
  | k + 1, h => by
    rw [List.range_succ, List.foldl_append, most_fold p h2 k (by omega)]
    simp only [List.foldl_cons, List.foldl_nil, h2 (k + 1) h, decide_eq_true_eq]
    split <;> omega
theorem standF_zero {d : Canopy} (hd : DOk d) (at_ : Int) : standF d at_ 0 = true := by
  refine noneP_iff.2 fun i hi => ?_
  rw [firstP_eq]
  have := (st_in hd hi).1
  have e : ldW d ⟨((0 : Nat) : Int), at_⟩ i = 0 := by simp [ldW, loadS]
  rw [e]; simp; omega
theorem standF_down {d : Canopy} (hd : DOk d) (at_ : Int) (k : Nat) (h : standF d at_ (k + 1) = true) : standF d at_ k = true := by
  refine noneP_iff.2 fun i hi => ?_
  have h1 := noneP_iff.1 h i hi
  rw [firstP_eq] at h1 ⊢
  have := (load_mono (l := (liftS d).High) (l' := (liftS d).High) (by have := lift_in hd; omega) (Int.le_refl _) hd.sh (g := ⟨(k : Int), at_⟩) (g' := ⟨((k + 1 : Nat) : Int), at_⟩) rfl (by simp) (by simp; omega) (sh_pos hd) i).2
  simp only [hi, decide_true, Bool.true_and, decide_eq_false_iff_not] at h1 ⊢
  unfold ldW at h1 ⊢
  omega
theorem most_spec {d : Canopy} (hd : DOk d) (at_ : Int) : mostS d at_ ≤ 99 ∧ ∀ f, f ≤ 99 → standF d at_ f = decide (f ≤ mostS d at_) := by
  obtain ⟨M, h1, h2⟩ := most_exists (standF d at_) (standF_zero hd at_) (standF_down hd at_) 99
  have : mostS d at_ = M := by
    unfold mostS
    rw [most_fold (standF d at_) h2 99 (Nat.le_refl _)]; omega
  rw [this]
  exact ⟨h1, h2⟩
section
variable {n : Nat} (hn : 100000000 ≤ n)
include hn
theorem p_Most {d : Canopy} (hs : Small d) (at_ : Int) : F_gusts_Most n d at_ = some (mostT d at_) := by
  simp only [F_gusts_Most, p_gask hn hs (l := [⟨0, at_⟩]) (by simp), Option.bind_some, mostT]
  by_cases h : askG d [⟨0, at_⟩] = 0
  · obtain ⟨hd, _, hg⟩ := askG_ok.1 h
    have hg := (hg _ (List.mem_singleton.2 rfl)).a
    obtain ⟨m1, m2⟩ := most_spec hd at_
    have hf : ∀ f : Nat, f ≤ 99 → F_gusts_blown_first n (worstB d) ⟨(f : Int), at_⟩ = some ((enc d.Ribs.length (firstP d ⟨(f : Int), at_⟩) : Nat) : Int) := fun f hf => p_firstW hn hd ⟨by simp; omega, hg⟩
    simp only [h, bne_self_eq_false, Bool.false_eq_true, if_false, if_true, p_ends hn hd, Option.bind_some]
    have kk := loop_run (step := F_gusts_Most_s1 n at_ (bestB d, worstB d)) (fun j => (j : Int)) (r := (mostS d at_ : Int)) (mostS d at_) 0 n (fun j _ hj => ?_) ?_ (by omega)
    · rw [show ((0 : Nat) : Int) = 0 from rfl] at kk
      rw [kk]; rfl
    · have hlt : decide ((j : Int) < 99) = true := by simp; omega
      have hw : w64 ((j : Int) + 1) = ((j + 1 : Nat) : Int) := w64_nat (by omega)
      have hst := m2 (j + 1) (by omega)
      simp only [F_gusts_Most_s1, hlt, if_true, hw, hf (j + 1) (by omega), Option.bind_some, enc_none]
      rw [show noneP d.Ribs.length (firstP d ⟨((j + 1 : Nat) : Int), at_⟩) = standF d at_ (j + 1) from rfl, hst]
      simp; omega
    · simp only [Nat.zero_add]
      by_cases hM : mostS d at_ < 99
      · have hlt : decide ((mostS d at_ : Int) < 99) = true := by simp; omega
        have hw : w64 ((mostS d at_ : Int) + 1) = ((mostS d at_ + 1 : Nat) : Int) := w64_nat (by omega)
        have hst := m2 (mostS d at_ + 1) (by omega)
        simp only [F_gusts_Most_s1, hlt, if_true, hw, hf (mostS d at_ + 1) (by omega), Option.bind_some, enc_none]
        rw [show noneP d.Ribs.length (firstP d ⟨((mostS d at_ + 1 : Nat) : Int), at_⟩) = standF d at_ (mostS d at_ + 1) from rfl, hst]
        simp
      · have hlt : decide ((mostS d at_ : Int) < 99) = false := by simp; omega
        simp [F_gusts_Most_s1, hlt]
  · simp [h]
omit hn in
theorem enc_or {N : Nat} (hN : N ≤ 10) (p q : Nat → Bool) : bor .u16 ((enc N p : Nat) : Int) ((enc N q : Nat) : Int) = ((enc N fun i => p i || q i : Nat) : Int) := by
  rw [bor_nat (enc_16 hN p) (enc_16 hN q), Int.natCast_inj]
  refine enc_eq fun j => ?_
  rw [Nat.testBit_or, enc_bit, enc_bit]
  cases decide (j < N) <;> simp
/-! ### the reference -/
omit hn in
theorem p_within05 (n : Nat) (a b c : Int) : F_ref05_within n a b c = some (wi a b c) := rfl
omit hn in
theorem all_idx {α : Type} (l : List α) (p : α → Bool) (q : Nat → Bool) (h : ∀ i x, l[i]? = some x → q i = p x) : (List.range l.length).all q = l.all p := by
  rw [Bool.eq_iff_iff, List.all_eq_true, List.all_eq_true]
  constructor
  · intro h1 x hx
    obtain ⟨i, hi, rfl⟩ := List.getElem_of_mem hx
    rw [← h i _ (List.getElem?_eq_getElem hi)]
    exact h1 i (List.mem_range.2 hi)
  · intro h1 i hi
    have hi := List.mem_range.1 hi
    rw [h i _ (List.getElem?_eq_getElem hi)]
    exact h1 _ (List.getElem_mem hi)
omit hn in
theorem all_and {α : Type} (l : List α) (p q : α → Bool) : (l.all fun x => p x && q x) = (l.all p && l.all q) := by
  induction l with
  | nil => rfl
  | cons a l ih => simp only [List.all_cons, ih]; cases p a <;> cases q a <;> cases l.all p <;> cases l.all q <;> rfl
theorem p_Check05 {d : Canopy} (hs : Small d) : F_ref05_Check n d = some (if okD d = true then 0 else 50) := by
  have e3 : ((if okF d.Frame = true then (0 : Int) else 10) != 0) = !okF d.Frame := by cases okF d.Frame <;> rfl
  have e4 : ((d.Shares.length : Int) != (d.Ribs.length : Int)) = !((d.Shares.length : Int) == (d.Ribs.length : Int)) := rfl
  simp only [F_ref05_Check, p_Check01 hn hs.1, Option.bind_some, e3, e4, p_within05, or_br]
  have e5 : ((!okF d.Frame || !wi (d.Ribs.length : Int) 3 10) || !((d.Shares.length : Int) == (d.Ribs.length : Int))) = !(okF d.Frame && wi (d.Ribs.length : Int) 3 10 && ((d.Shares.length : Int) == (d.Ribs.length : Int))) := by simp only [Bool.not_and]
  rw [e5]
  unfold okD
  by_cases h : (okF d.Frame && wi (d.Ribs.length : Int) 3 10 && ((d.Shares.length : Int) == (d.Ribs.length : Int))) = true
  · have hsl : d.Shares.length = d.Ribs.length := by
      simp only [Bool.and_eq_true, beq_iff_eq] at h; omega
    have hr := hs.2.1
    simp only [h, Bool.not_true, Bool.false_eq_true, if_false, Bool.true_and]
    have kk := loop_all (step := F_ref05_Check_s1 n d) d.Ribs.length (fun i => okRib ((d.Ribs[i]?).getD ⟨0, 0⟩) && okSh ((d.Shares[i]?).getD 0)) (50 : Int) (n := n) (by omega) (fun i hi => ?_) ?_ (by omega)
    · rw [kk, all_and]
      rw [all_idx d.Ribs okRib (fun i => okRib ((d.Ribs[i]?).getD ⟨0, 0⟩)) (fun i x hx => by rw [hx]; rfl)]
      have := all_idx d.Shares okSh (fun i => okSh ((d.Shares[i]?).getD 0)) (fun i x hx => by rw [hx]; rfl)
      rw [hsl] at this
      rw [this]
      cases (d.Ribs.all okRib && d.Shares.all okSh) <;> rfl
    · have h1 : d.Ribs[i]? = some d.Ribs[i] := List.getElem?_eq_getElem hi
      have h2 : d.Shares[i]? = some (d.Shares[i]'(by omega)) := List.getElem?_eq_getElem (by omega)
      simp only [F_ref05_Check_s1, lt_nat, hi, decide_true, if_true, geti_nat, h1, h2, Option.bind_some, p_within05, or_br, Option.getD_some, w64_nat (show i ≤ 4611686018427387904 by omega)]
      have e6 : decide (99999 < d.Ribs[i].High) = !decide (d.Ribs[i].High ≤ 99999) := by rw [← decide_not]; congr 1; simp
      have e7 : ((!wi d.Ribs[i].Low 0 d.Ribs[i].High || decide (99999 < d.Ribs[i].High)) || !wi (d.Shares[i]'(by omega)) 0 99) = !(okRib d.Ribs[i] && okSh (d.Shares[i]'(by omega))) := by
        rw [e6]; simp only [okRib, okSh, Bool.not_and]
      rw [e7]
      cases (okRib d.Ribs[i] && okSh (d.Shares[i]'(by omega))) <;> rfl
    · simp [F_ref05_Check_s1]
  · simp only [Bool.not_eq_true] at h
    simp only [h, Bool.not_false, if_true, Bool.false_and, Bool.false_eq_true, if_false]
end
end Go.Proofs.Yteihdclpiekmaaa
