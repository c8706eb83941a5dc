/-
  Gusts, plain: sets of ribs as bits, what a rib bears, the rounds.
-/
import Derived.Test.YteihdclpiekmaaaLfPfe
namespace Go.Proofs.Yteihdclpiekmaaa
open Go Go.RowKit Go.Dec
set_option linter.unusedVariables false

/-! ### bits -/
theorem u16_wrap {x : Nat} (h2 : x < 65536) : IntKind.wrap .u16 (x : Int) = x := by
  simp [IntKind.wrap, IntKind.bits, IntKind.signed]; omega
theorem bshr_nat {m i : Nat} (hi : i < 16) : bshr .u16 (m : Int) (i : Int) = ((m / 2 ^ i : Nat) : Int) := by
  unfold bshr
  have h : min (i : Int).toNat (IntKind.bits .u16) = i := by simp [IntKind.bits]; omega
  rw [h, Int.fdiv_eq_ediv_of_nonneg _ (Int.pow_nonneg (by decide))]
  simp
theorem band_nat {a b : Nat} (ha : a < 65536) (hb : b < 65536) : band .u16 (a : Int) (b : Int) = ((a &&& b : Nat) : Int) := by
  unfold band
  have hh : (BitVec.ofInt (IntKind.bits .u16) (a : Int) &&& BitVec.ofInt (IntKind.bits .u16) (b : Int)).toNat = a &&& b := by
    rw [BitVec.toNat_and]
    simp [IntKind.bits, BitVec.ofInt_natCast]
    rw [Nat.mod_eq_of_lt ha, Nat.mod_eq_of_lt hb]
  rw [hh]
  exact u16_wrap (Nat.lt_of_le_of_lt Nat.and_le_left ha)
theorem bor_nat {a b : Nat} (ha : a < 65536) (hb : b < 65536) : bor .u16 (a : Int) (b : Int) = ((a ||| b : Nat) : Int) := by
  unfold bor
  have hh : (BitVec.ofInt (IntKind.bits .u16) (a : Int) ||| BitVec.ofInt (IntKind.bits .u16) (b : Int)).toNat = a ||| b := by
    rw [BitVec.toNat_or]
    simp [IntKind.bits, BitVec.ofInt_natCast]
    rw [Nat.mod_eq_of_lt ha, Nat.mod_eq_of_lt hb]
  rw [hh]
  exact u16_wrap (Nat.or_lt_two_pow (n := 16) ha hb)
theorem bshl_one {i : Nat} (hi : i < 16) : bshl .u16 1 (i : Int) = ((2 ^ i : Nat) : Int) := by
  unfold bshl
  have h : min (i : Int).toNat (IntKind.bits .u16) = i := by simp [IntKind.bits]; omega
  rw [h, Int.one_mul]
  have : (2 : Int) ^ i = ((2 ^ i : Nat) : Int) := by simp
  rw [this]
  exact u16_wrap (Nat.lt_of_lt_of_le (Nat.pow_lt_pow_right (by decide) hi) (by decide))
theorem bit_at {m i : Nat} (hm : m < 65536) (hi : i < 16) : band .u16 (bshr .u16 (m : Int) (i : Int)) 1 = if m.testBit i = true then 1 else 0 := by
  have hd : m / 2 ^ i < 65536 := Nat.lt_of_le_of_lt (Nat.div_le_self _ _) hm
  rw [bshr_nat hi]
  have := band_nat (a := m / 2 ^ i) (b := 1) hd (by decide)
  rw [show ((1 : Nat) : Int) = 1 from rfl] at this
  rw [this, Nat.and_one_is_mod, Nat.testBit_eq_decide_div_mod_eq]
  rcases Nat.mod_two_eq_zero_or_one (m / 2 ^ i) with h | h <;> simp [h]
theorem bit_eq0 {m i : Nat} (hm : m < 65536) (hi : i < 16) : (band .u16 (bshr .u16 (m : Int) (i : Int)) 1 == 0) = !m.testBit i := by
  rw [bit_at hm hi]; cases m.testBit i <;> rfl
theorem bit_eq1 {m i : Nat} (hm : m < 65536) (hi : i < 16) : (band .u16 (bshr .u16 (m : Int) (i : Int)) 1 == 1) = m.testBit i := by
  rw [bit_at hm hi]; cases m.testBit i <;> rfl

/-! ### the mask of a set -/
def enc (n : Nat) (p : Nat → Bool) : Nat := (List.range n).foldl (fun a i => if p i = true then a ||| 2 ^ i else a) 0
theorem enc_fold (p : Nat → Bool) : ∀ (l : List Nat) (a j : Nat), (l.foldl (fun a i => if p i = true then a ||| 2 ^ i else a) a).testBit j = (a.testBit j || (l.contains j && p j))
  | [], a, j => by simp
  | i :: l, a, j => by
    rw [List.foldl_cons, enc_fold p l]
    by_cases hp : p i = true
    · rw [if_pos hp, Nat.testBit_or, Nat.testBit_two_pow]
      by_cases hij : i = j
      · subst hij; simp [hp]
      · have : (j == i) = false := by simp; exact fun e => hij e.symm
        have h3 : ¬ j = i := fun e => hij e.symm
        simp [hij, h3, List.contains_cons, this]
    · rw [if_neg hp]
      by_cases hij : i = j
      · subst hij; simp [hp]
      · have : (j == i) = false := by simp; exact fun e => hij e.symm
        have h3 : ¬ j = i := fun e => hij e.symm
        simp [h3, List.contains_cons, this]
theorem enc_bit (n : Nat) (p : Nat → Bool) (j : Nat) : (enc n p).testBit j = (decide (j < n) && p j) := by
  unfold enc
  rw [enc_fold]
  simp [List.contains_eq_mem]
theorem enc_lt {n : Nat} (p : Nat → Bool) : enc n p < 2 ^ n := by
  refine Nat.lt_pow_two_of_testBit _ fun i hi => ?_
  rw [enc_bit]; simp; omega
theorem enc_16 {n : Nat} (hn : n ≤ 10) (p : Nat → Bool) : enc n p < 65536 := Nat.lt_of_lt_of_le (enc_lt p) (Nat.le_trans (Nat.pow_le_pow_right (by decide) hn) (by decide))
theorem enc_eq {n m : Nat} {p : Nat → Bool} (h : ∀ j, m.testBit j = (decide (j < n) && p j)) : m = enc n p := Nat.eq_of_testBit_eq fun j => by rw [h, enc_bit]
theorem enc_inj {n : Nat} {p q : Nat → Bool} : enc n p = enc n q ↔ ∀ i, i < n → p i = q i := by
  constructor
  · intro h i hi
    have := congrArg (fun m => m.testBit i) h
    simpa [enc_bit, hi] using this
  · intro h
    exact enc_eq fun j => by
      rw [enc_bit]
      by_cases hj : j < n
      · simp [hj, h j hj]
      · simp [hj]
theorem enc_zero {n : Nat} {p : Nat → Bool} : enc n p = 0 ↔ ∀ i, i < n → p i = false := by
  have h0 : (0 : Nat) = enc n fun _ => false := enc_eq fun j => by simp
  rw [h0, enc_inj]

/-! ### what a rib bears -/
def path (n rib st : Nat) : List Nat := (List.range' 1 (n - 1)).map fun k => (rib + k * st) % n
def sideS (L : Nat → Int) (p : Nat → Bool) (l : List Nat) : Int := ((l.takeWhile p).map L).foldl (· + ·) 0
def bearsS (L : Nat → Int) (p : Nat → Bool) (n i : Nat) : Int := L i + (sideS L p (path n i 1)).tdiv 2 + (sideS L p (path n i (n - 1))).tdiv 2
def stepS (L S : Nat → Int) (n : Nat) (p : Nat → Bool) : Nat → Bool := fun i => p i || (decide (i < n) && decide (S i < bearsS L p n i))
def G (L S : Nat → Int) (n : Nat) : Nat → Nat → Bool
  | 0 => fun _ => false
  | k + 1 => stepS L S n (G L S n k)
theorem sum_acc (L : Nat → Int) : ∀ (l : List Nat) (a : Int), (l.map L).foldl (· + ·) a = a + (l.map L).foldl (· + ·) 0
  | [], a => by simp
  | x :: l, a => by
    simp only [List.map_cons, List.foldl_cons]
    rw [sum_acc L l (a + L x), sum_acc L l (0 + L x)]; omega
theorem sideS_cons {L : Nat → Int} {p : Nat → Bool} {a : Nat} {l : List Nat} : sideS L p (a :: l) = if p a = true then L a + sideS L p l else 0 := by
  unfold sideS
  by_cases h : p a = true
  · rw [if_pos h, List.takeWhile_cons_of_pos h, List.map_cons, List.foldl_cons, sum_acc]; omega
  · rw [if_neg h, List.takeWhile_cons_of_neg h]; rfl
theorem sideS_nil {L : Nat → Int} {p : Nat → Bool} : sideS L p [] = 0 := rfl
theorem sideS_in {L : Nat → Int} {M : Int} (p : Nat → Bool) : ∀ (l : List Nat), (∀ i ∈ l, 0 ≤ L i ∧ L i ≤ M) → 0 ≤ sideS L p l ∧ sideS L p l ≤ M * l.length
  | [], _ => by simp [sideS_nil]
  | a :: l, h => by
    obtain ⟨h1, h2⟩ := sideS_in p l fun i hi => h i (List.mem_cons_of_mem _ hi)
    obtain ⟨h3, h4⟩ := h a (List.mem_cons_self ..)
    have hM : M * ((a :: l).length : Nat) = M * l.length + M := by
      rw [List.length_cons]; push_cast; rw [Int.mul_add, Int.mul_one]
    have hm : 0 ≤ M * (l.length : Int) := Int.mul_nonneg (by omega) (by omega)
    rw [sideS_cons, hM]
    split <;> omega
theorem path_lt {n rib st : Nat} (hn : 0 < n) {i : Nat} (h : i ∈ path n rib st) : i < n := by
  obtain ⟨k, _, rfl⟩ := List.mem_map.1 h
  exact Nat.mod_lt _ hn
theorem path_len (n rib st : Nat) : (path n rib st).length = n - 1 := by simp [path]
/-- loads are known to be small -/
def LOk (L : Nat → Int) (n : Nat) : Prop := ∀ i, i < n → 0 ≤ L i ∧ L i ≤ 20000
theorem side_in {L : Nat → Int} {n : Nat} (hL : LOk L n) (hn : 0 < n) (hn2 : n ≤ 10) (p : Nat → Bool) (i st : Nat) : 0 ≤ sideS L p (path n i st) ∧ sideS L p (path n i st) ≤ 200000 := by
  obtain ⟨h1, h2⟩ := sideS_in (L := L) (M := 20000) p (path n i st) fun j hj => hL j (path_lt hn hj)
  rw [path_len] at h2
  omega
theorem side_mono {L L' : Nat → Int} {p p' : Nat → Bool} : ∀ (l : List Nat), (∀ i ∈ l, 0 ≤ L i ∧ L i ≤ L' i) → (∀ i ∈ l, p i = true → p' i = true) → sideS L p l ≤ sideS L' p' l
  | [], _, _ => by simp [sideS_nil]
  | a :: l, h, hp => by
    have ih := side_mono l (fun i hi => h i (List.mem_cons_of_mem _ hi)) fun i hi => hp i (List.mem_cons_of_mem _ hi)
    have h0 := (sideS_in (L := L) (M := l.foldl (fun m i => max m (L i)) 0) p [] (by simp)).1
    obtain ⟨h3, h4⟩ := h a (List.mem_cons_self ..)
    rw [sideS_cons, sideS_cons]
    by_cases hpa : p a = true
    · rw [if_pos hpa, if_pos (hp a (List.mem_cons_self ..) hpa)]; omega
    · rw [if_neg hpa]
      split
      · have : ∀ (l : List Nat), (∀ i ∈ l, 0 ≤ L' i) → 0 ≤ sideS L' p' l := by
          intro l
          induction l with
          | nil => intro _; simp [sideS_nil]
          | cons b l ih => intro h; rw [sideS_cons]; have := ih fun i hi => h i (List.mem_cons_of_mem _ hi); have := h b (List.mem_cons_self ..); split <;> omega
        have := this l fun i hi => by have := h i (List.mem_cons_of_mem _ hi); omega
        omega
      · omega
theorem tdiv2_mono {a b : Int} (h0 : 0 ≤ a) (h : a ≤ b) : a.tdiv 2 ≤ b.tdiv 2 := by
  rw [Int.tdiv_eq_ediv_of_nonneg h0, Int.tdiv_eq_ediv_of_nonneg (by omega)]; omega
theorem tdiv2_in {a : Int} (h0 : 0 ≤ a) (h : a ≤ 200000) : 0 ≤ a.tdiv 2 ∧ a.tdiv 2 ≤ 100000 := by
  rw [Int.tdiv_eq_ediv_of_nonneg h0]; omega
theorem bears_in {L : Nat → Int} {n : Nat} (hL : LOk L n) (hn : 0 < n) (hn2 : n ≤ 10) (p : Nat → Bool) {i : Nat} (hi : i < n) : 0 ≤ bearsS L p n i ∧ bearsS L p n i ≤ 300000 := by
  have h1 := side_in hL hn hn2 p i 1
  have h2 := side_in hL hn hn2 p i (n - 1)
  have h3 := tdiv2_in h1.1 h1.2
  have h4 := tdiv2_in h2.1 h2.2
  have h5 := hL i hi
  unfold bearsS
  omega
theorem bears_mono {L L' : Nat → Int} {n : Nat} (hn : 0 < n) (hL : ∀ i, i < n → 0 ≤ L i ∧ L i ≤ L' i) {p p' : Nat → Bool} (hp : ∀ i, i < n → p i = true → p' i = true) {i : Nat} (hi : i < n) : bearsS L p n i ≤ bearsS L' p' n i := by
  have key : ∀ st, 0 ≤ sideS L p (path n i st) ∧ sideS L p (path n i st) ≤ sideS L' p' (path n i st) := fun st => by
    refine ⟨?_, side_mono _ (fun j hj => hL j (path_lt hn hj)) fun j hj => hp j (path_lt hn hj)⟩
    have := side_mono (L := fun _ => 0) (L' := L) (p := fun _ => false) (p' := p) (path n i st) (fun j hj => ⟨Int.le_refl _, (hL j (path_lt hn hj)).1⟩) fun _ _ h => by simp at h
    have h0 : sideS (fun _ => 0) (fun _ => false) (path n i st) = 0 := by
      cases path n i st with
      | nil => rfl
      | cons a l => rw [sideS_cons]; rfl
    omega
  have h1 := tdiv2_mono (key 1).1 (key 1).2
  have h2 := tdiv2_mono (key (n - 1)).1 (key (n - 1)).2
  have := (hL i hi).2
  unfold bearsS
  omega
theorem step_mono {L L' S S' : Nat → Int} {n : Nat} (hn : 0 < n) (hL : ∀ i, i < n → 0 ≤ L i ∧ L i ≤ L' i) (hS : ∀ i, i < n → S' i ≤ S i) {p p' : Nat → Bool} (hp : ∀ i, i < n → p i = true → p' i = true) {i : Nat} (hi : i < n) (h : stepS L S n p i = true) : stepS L' S' n p' i = true := by
  unfold stepS at h ⊢
  simp only [Bool.or_eq_true, Bool.and_eq_true, decide_eq_true_eq] at h ⊢
  rcases h with h | ⟨_, h⟩
  · exact .inl (hp i hi h)
  · have := bears_mono hn hL hp hi
    have := hS i hi
    exact .inr ⟨hi, by omega⟩
theorem G_mono {L L' S S' : Nat → Int} {n : Nat} (hn : 0 < n) (hL : ∀ i, i < n → 0 ≤ L i ∧ L i ≤ L' i) (hS : ∀ i, i < n → S' i ≤ S i) : ∀ (k i : Nat), i < n → G L S n k i = true → G L' S' n k i = true
  | 0, i, hi, h => by simp [G] at h
  | k + 1, i, hi, h => step_mono hn hL hS (fun j hj => G_mono hn hL hS k j hj) hi h
theorem G_up {L S : Nat → Int} {n : Nat} (k i : Nat) (h : G L S n k i = true) : G L S n (k + 1) i = true := by
  show stepS L S n (G L S n k) i = true
  simp [stepS, h]
theorem G_le {L S : Nat → Int} {n k m i : Nat} (hkm : k ≤ m) (h : G L S n k i = true) : G L S n m i = true := by
  induction hkm with
  | refl => exact h
  | step _ ih => exact G_up _ _ ih
theorem G_lt {L S : Nat → Int} {n : Nat} : ∀ (k i : Nat), G L S n k i = true → i < n
  | 0, i, h => by simp [G] at h
  | k + 1, i, h => by
    simp only [G, stepS, Bool.or_eq_true, Bool.and_eq_true, decide_eq_true_eq] at h
    rcases h with h | h
    · exact G_lt k i h
    · exact h.1
/-- the first round alone -/
theorem side_none {L : Nat → Int} {l : List Nat} : sideS L (fun _ => false) l = 0 := by
  cases l with
  | nil => rfl
  | cons a l => rw [sideS_cons]; rfl
theorem G_one {L S : Nat → Int} {n i : Nat} : G L S n 1 i = (decide (i < n) && decide (S i < L i)) := by
  show stepS L S n (fun _ => false) i = _
  have : bearsS L (fun _ => false) n i = L i := by
    unfold bearsS; rw [side_none, side_none]; simp
  simp [stepS, this]
/-- rounds without a change -/
def fixd (L S : Nat → Int) (n k : Nat) : Prop := ∀ i, i < n → G L S n (k + 1) i = G L S n k i
theorem step_congr {L S : Nat → Int} {n : Nat} (hn : 0 < n) {p q : Nat → Bool} (h : ∀ i, i < n → p i = q i) {i : Nat} (hi : i < n) : stepS L S n p i = stepS L S n q i := by
  have key : ∀ (l : List Nat), (∀ j ∈ l, j < n) → sideS L p l = sideS L q l := by
    intro l
    induction l with
    | nil => intro _; rfl
    | cons a l ih =>
      intro hl
      rw [sideS_cons, sideS_cons, h a (hl a (List.mem_cons_self ..)), ih fun j hj => hl j (List.mem_cons_of_mem _ hj)]
  unfold stepS bearsS
  rw [h i hi, key _ fun j hj => path_lt hn hj, key _ fun j hj => path_lt hn hj]
theorem fixd_up {L S : Nat → Int} {n k : Nat} (hn : 0 < n) (h : fixd L S n k) : fixd L S n (k + 1) := fun i hi => by
  show stepS L S n (G L S n (k + 1)) i = stepS L S n (G L S n k) i
  exact step_congr hn h hi
theorem fixd_le {L S : Nat → Int} {n k m : Nat} (hn : 0 < n) (hkm : k ≤ m) (h : fixd L S n k) : fixd L S n m ∧ ∀ i, i < n → G L S n m i = G L S n k i := by
  induction hkm with
  | refl => exact ⟨h, fun _ _ => rfl⟩
  | step _ ih => exact ⟨fixd_up hn ih.1, fun i hi => by rw [ih.1 i hi]; exact ih.2 i hi⟩
/-- how many stand -/
def left (L S : Nat → Int) (n k : Nat) : Nat := (List.range n).countP fun i => !G L S n k i
theorem left_le (L S : Nat → Int) (n k : Nat) : left L S n k ≤ n := by
  unfold left; exact Nat.le_trans List.countP_le_length (by simp)
theorem countP_lt {α : Type} {p q : α → Bool} : ∀ (l : List α), (∀ x ∈ l, q x = true → p x = true) → (∃ x ∈ l, p x = true ∧ q x = false) → l.countP q < l.countP p
  | [], _, h => by simp at h
  | a :: l, h, ⟨x, hx, h1, h2⟩ => by
    have hm := List.countP_mono_left (l := l) (p := q) (q := p) fun y hy => h y (List.mem_cons_of_mem _ hy)
    rw [List.countP_cons, List.countP_cons]
    rcases List.mem_cons.1 hx with rfl | hx
    · simp [h1, h2]; omega
    · have := countP_lt l (fun y hy => h y (List.mem_cons_of_mem _ hy)) ⟨x, hx, h1, h2⟩
      have ha := h a (List.mem_cons_self ..)
      cases hq : q a
      · simp; split <;> omega
      · simp [ha hq]; omega
theorem left_lt {L S : Nat → Int} {n k : Nat} (h : ¬ fixd L S n k) : left L S n (k + 1) < left L S n k := by
  unfold fixd at h
  have : ∃ i, i < n ∧ G L S n (k + 1) i ≠ G L S n k i := by
    refine Classical.byContradiction fun hc => h fun i hi => ?_
    exact Classical.byContradiction fun hne => hc ⟨i, hi, hne⟩
  obtain ⟨i, hi, hne⟩ := this
  refine countP_lt _ (fun j _ hj => ?_) ⟨i, List.mem_range.2 hi, ?_, ?_⟩
  · cases hg : G L S n k j
    · rfl
    · rw [G_up _ _ hg] at hj; simp at hj
  · cases hg : G L S n k i
    · rfl
    · exact absurd ((G_up _ _ hg).trans hg.symm) hne
  · cases hg : G L S n k i
    · cases hg2 : G L S n (k + 1) i
      · exact absurd (hg2.trans hg.symm) hne
      · rfl
    · exact absurd ((G_up _ _ hg).trans hg.symm) hne
theorem fixd_n (L S : Nat → Int) {n : Nat} (hn : 0 < n) : fixd L S n n := by
  have key : ∀ k, fixd L S n k ∨ left L S n k + k ≤ n := by
    intro k
    induction k with
    | zero => exact .inr (left_le L S n 0)
    | succ k ih =>
      rcases ih with h | h
      · exact .inl (fixd_up hn h)
      · by_cases hf : fixd L S n k
        · exact .inl (fixd_up hn hf)
        · have := left_lt hf
          exact .inr (by omega)
  rcases key n with h | h
  · exact h
  · have h0 : left L S n n = 0 := by omega
    intro i hi
    unfold left at h0
    rw [List.countP_eq_zero] at h0
    have := h0 i (List.mem_range.2 hi)
    have hg : G L S n n i = true := by simpa using this
    rw [hg, G_up _ _ hg]
end Go.Proofs.Yteihdclpiekmaaa
