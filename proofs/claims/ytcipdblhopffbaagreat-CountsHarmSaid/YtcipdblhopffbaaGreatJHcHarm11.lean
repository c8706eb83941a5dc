/-
  A part of the proof of HcHarm: the texts EngQ, EngR, HaPfa, HaPfb, HaPfc, HaPfd, HaPfe, HaPga, HaPgb, HaPgc.
-/
import Derived.Test.YtcipdblhopffbaaGreatJHcHarm10
section
namespace Go.Dec
theorem w64_nat {i : Nat} (h : i ≤ 4611686018427387904) : w64 ((i : Int) + 1) = ((i + 1 : Nat) : Int) := by
  rw [w64_id] <;> omega
theorem lim_ok {α : Type} {l : List α} (h : l.length ≤ 4294967296) : lim l = some l := by simp [lim, h]
section
variable {S R : Type} {step : S → Option (S ⊕ R)}
theorem loopO_succ {n : Nat} {s : S} : loopO (n + 1) step s = (match step s with | none => none | some (.inl s') => loopO n step s' | some (.inr r) => some r) := by
  rw [loopO]; rcases step s with _ | (_ | _) <;> rfl
theorem loop_done {n : Nat} {s : S} {r : R} (h : step s = some (.inr r)) (hn : 0 < n) : loopO n step s = some r := by
  obtain ⟨m, rfl⟩ : ∃ k, n = k + 1 := ⟨n - 1, by omega⟩
  rw [loopO_succ, h]
/-- a run of states -/
theorem loop_run (s : Nat → S) {r : R} : ∀ (k i n : Nat), (∀ j, i ≤ j → j < i + k → step (s j) = some (.inl (s (j + 1)))) → step (s (i + k)) = some (.inr r) → k < n → loopO n step (s i) = some r := by
  intro k
  induction k with
  | zero => intro i n _ h hn; exact loop_done h hn
  | succ k ih =>
    intro i n h hd hn
    obtain ⟨m, rfl⟩ : ∃ k, n = k + 1 := ⟨n - 1, by omega⟩
    rw [loopO_succ, h i (Nat.le_refl _) (by omega)]
    exact ih (i + 1) m (fun j h1 h2 => h j (by omega) (by omega)) (by rw [show i + 1 + k = i + (k + 1) by omega]; exact hd) (by omega)
/-- a loop that folds a list; I: what is so of the state before round i -/
theorem loop_fold {α β : Type} (l : List α) (enc : Nat → β → S) (g : β → α → β) (fin : β → R) (I : Nat → β → Prop) {n : Nat} (b0 : β) (h0 : I 0 b0)
    (h : ∀ i x b, l[i]? = some x → I i b → step (enc i b) = some (.inl (enc (i + 1) (g b x))) ∧ I (i + 1) (g b x))
    (hd : ∀ b, I l.length b → step (enc l.length b) = some (.inr (fin b))) (hn : l.length < n) : loopO n step (enc 0 b0) = some (fin (l.foldl g b0)) ∧ I l.length (l.foldl g b0) := by
  have key : ∀ (k i : Nat) (b : β) (n : Nat), i + k = l.length → I i b → k < n → loopO n step (enc i b) = some (fin ((l.drop i).foldl g b)) ∧ I l.length ((l.drop i).foldl g b) := by
    intro k
    induction k with
    | zero =>
      intro i b n hi hI hn
      have e : i = l.length := by omega
      subst e
      rw [List.drop_length]
      exact ⟨loop_done (hd b hI) hn, hI⟩
    | succ k ih =>
      intro i b n hi hI hn
      obtain ⟨m, rfl⟩ : ∃ k, n = k + 1 := ⟨n - 1, by omega⟩
      have hlt : i < l.length := by omega
      obtain ⟨h1, h2⟩ := h i l[i] b (List.getElem?_eq_getElem hlt) hI
      rw [loopO_succ, h1, List.drop_eq_getElem_cons hlt, List.foldl_cons]
      exact ih (i + 1) _ m (by omega) h2 (by omega)
  have := key l.length 0 b0 n (by omega) h0 hn
  rwa [List.drop_zero] at this
/-- .. with nothing to be remembered -/
theorem loop_foldl {α β : Type} (l : List α) (enc : Nat → β → S) (g : β → α → β) (fin : β → R) {n : Nat} (b0 : β)
    (h : ∀ i x b, l[i]? = some x → i < l.length → step (enc i b) = some (.inl (enc (i + 1) (g b x))))
    (hd : ∀ b, step (enc l.length b) = some (.inr (fin b))) (hn : l.length < n) : loopO n step (enc 0 b0) = some (fin (l.foldl g b0)) :=
  (loop_fold l enc g fin (fun _ _ => True) b0 trivial (fun i x b hx _ => ⟨h i x b hx (List.getElem?_eq_some_iff.1 hx).1, trivial⟩) (fun b _ => hd b) hn).1
/-- a search by index -/
theorem loop_all {ρ : Type} {step : Int → Option (Int ⊕ (ρ ⊕ Unit))} (k : Nat) (p : Nat → Bool) (r : ρ) {n : Nat} (hk : k ≤ 4611686018427387904)
    (h : ∀ i, i < k → step (i : Int) = some (bif p i then .inl ((i + 1 : Nat) : Int) else .inr (.inl r))) (hd : step (k : Int) = some (.inr (.inr ()))) (hn : k < n) :
    loopO n step 0 = some (bif (List.range k).all p then .inr () else .inl r) := by
  have key : ∀ (m i n : Nat), i + m = k → m < n → loopO n step (i : Int) = some (bif (List.range' i m).all p then .inr () else .inl r) := by
    intro m
    induction m with
    | zero => intro i n hi hn; have : i = k := by omega
              subst this; rw [loop_done hd (by omega)]; simp
    | succ m ih =>
      intro i n hi hn
      obtain ⟨m', rfl⟩ : ∃ k, n = k + 1 := ⟨n - 1, by omega⟩
      rw [loopO_succ, h i (by omega), List.range'_succ, List.all_cons]
      cases hp : p i with
      | false => simp
      | true => simp only [cond_true, Bool.true_and]; exact ih (i + 1) m' (by omega) (by omega)
  have := key k 0 n (by omega) hn
  rw [List.range_eq_range']
  exact this
/-- a search in a list -/
theorem loop_all_l {α ρ : Type} {step : Int → Option (Int ⊕ (ρ ⊕ Unit))} (l : List α) (p : α → Bool) (r : ρ) {n : Nat} (hk : l.length ≤ 4611686018427387904)
    (h : ∀ i x, l[i]? = some x → i < l.length → step (i : Int) = some (bif p x then .inl ((i + 1 : Nat) : Int) else .inr (.inl r))) (hd : step (l.length : Int) = some (.inr (.inr ()))) (hn : l.length < n) :
    loopO n step 0 = some (bif l.all p then .inr () else .inl r) := by
  have := loop_all l.length (fun i => match l[i]? with | some x => p x | none => true) r hk (fun i hi => by
    rw [h i l[i] (List.getElem?_eq_getElem hi) hi]; simp [hi]) hd hn
  rw [this]
  have e : (List.range l.length).all (fun i => match l[i]? with | some x => p x | none => true) = l.all p := by
    rw [Bool.eq_iff_iff]
    simp only [List.all_eq_true, List.mem_range]
    constructor
    · intro h x hx
      obtain ⟨i, hi⟩ := List.mem_iff_getElem?.1 hx
      have := h i (List.getElem?_eq_some_iff.1 hi).1
      simpa [hi] using this
    · intro h i hi
      simpa [hi] using h _ (List.getElem_mem hi)
  rw [e]
end
/-- the first one that is such -/
theorem first_of {α : Type} {p : α → Bool} : ∀ {s : List α}, s.any p = true → ∃ i : Nat, ∃ x, s[i]? = some x ∧ p x = true ∧ ∀ (j : Nat) y, j < i → s[j]? = some y → p y = false
  | [], h => by simp at h
  | a :: s, h => by
    by_cases ha : p a = true
    · exact ⟨0, a, rfl, ha, by intros; omega⟩
    · have hs : s.any p = true := by simpa [ha] using h
      obtain ⟨i, x, h1, h2, h3⟩ := first_of hs
      refine ⟨i + 1, x, by simpa using h1, h2, fun j y hj hy => ?_⟩
      cases j with
      | zero => simp at hy; subst hy; simpa using ha
      | succ j => exact h3 j y (by omega) (by simpa using hy)
/-- a walk over what an iterator yields -/
def foldO {σ ρ α : Type} (cs : σ → α → Option (σ ⊕ ρ)) : σ → List α → Option (σ ⊕ ρ)
  | s, [] => some (.inl s)
  | s, a :: l => (cs s a).bind fun y => match y with | .inl s' => foldO cs s' l | .inr r => some (.inr r)
theorem foldO_foldl {σ ρ α : Type} {cs : σ → α → Option (σ ⊕ ρ)} (g : σ → α → σ) (I : Nat → σ → Prop) : ∀ (l : List α) (k : Nat) (s : σ), I k s → (∀ i s a, i < k + l.length → a ∈ l → I i s → cs s a = some (.inl (g s a)) ∧ I (i + 1) (g s a)) →
    foldO cs s l = some (.inl (l.foldl g s)) ∧ I (k + l.length) (l.foldl g s)
  | [], k, s, h, _ => ⟨rfl, h⟩
  | a :: l, k, s, h, hs => by
    obtain ⟨h1, h2⟩ := hs k s a (by simp) (List.mem_cons_self ..) h
    obtain ⟨h3, h4⟩ := foldO_foldl g I l (k + 1) _ h2 (fun i s a hi ha => hs i s a (by rw [List.length_cons]; omega) (List.mem_cons_of_mem _ ha))
    refine ⟨by simp [foldO, h1, h3], ?_⟩
    rw [List.length_cons, show k + (l.length + 1) = k + 1 + l.length by omega]
    exact h4
theorem foldO_append {σ ρ α : Type} {cs : σ → α → Option (σ ⊕ ρ)} : ∀ (l m : List α) (s : σ), foldO cs s (l ++ m) = (foldO cs s l).bind fun y => match y with | .inl s' => foldO cs s' m | .inr r => some (.inr r)
  | [], m, s => by simp [foldO]
  | a :: l, m, s => by
    simp only [List.cons_append, foldO]
    cases cs s a with
    | none => rfl
    | some y => cases y with
      | inl s' => simp [foldO_append l m s']
      | inr r => simp
theorem foldl_filter_append {α : Type} (p : α → Bool) : ∀ (l out : List α), l.foldl (fun o x => if p x = true then o ++ [x] else o) out = out ++ l.filter p
  | [], out => by simp
  | a :: l, out => by
    rw [List.foldl_cons, foldl_filter_append p l]
    cases h : p a <;> simp [h]
theorem foldl_count {α : Type} (p : α → Bool) : ∀ (l : List α) (k : Int), l.foldl (fun o x => if p x = true then o + 1 else o) k = k + (l.countP p : Nat)
  | [], k => by simp
  | a :: l, k => by
    rw [List.foldl_cons, foldl_count p l]
    cases h : p a <;> simp [h, List.countP_cons]; omega
theorem foldl_append_map {α β : Type} (f : α → β) : ∀ (l : List α) (out : List β), l.foldl (fun o x => o ++ [f x]) out = out ++ l.map f
  | [], out => by simp
  | a :: l, out => by rw [List.foldl_cons, foldl_append_map f l]; simp
theorem foldl_pair {α β γ : Type} (f : β → α → β) (g : γ → α → γ) : ∀ (l : List α) (b : β) (c : γ), l.foldl (fun s x => (f s.1 x, g s.2 x)) (b, c) = (l.foldl f b, l.foldl g c)
  | [], _, _ => rfl
  | a :: l, b, c => by simp only [List.foldl_cons]; exact foldl_pair f g l _ _
theorem foldl_map' {α β γ : Type} (f : α → β) (g : γ → β → γ) : ∀ (l : List α) (c : γ), l.foldl (fun s x => g s (f x)) c = (l.map f).foldl g c
  | [], _ => rfl
  | a :: l, c => by simp only [List.foldl_cons, List.map_cons]; exact foldl_map' f g l _
/-- least and greatest -/
theorem foldl_min {a m : Int} : ∀ (l : List Int) (a : Int), (∀ x ∈ a :: l, l.foldl min a ≤ x) ∧ l.foldl min a ∈ a :: l
  | [], a => by simp
  | b :: l, a => by
    obtain ⟨h1, h2⟩ := foldl_min (a := a) (m := m) l (min a b)
    rw [List.foldl_cons]
    refine ⟨fun x hx => ?_, ?_⟩
    · have h3 := h1 _ (List.mem_cons_self ..)
      rcases List.mem_cons.1 hx with rfl | hx
      · omega
      · rcases List.mem_cons.1 hx with rfl | hx
        · omega
        · exact h1 x (List.mem_cons_of_mem _ hx)
    · rcases List.mem_cons.1 h2 with h2 | h2
      · rw [h2]
        rcases Int.le_total a b with h | h
        · rw [Int.min_eq_left h]; exact List.mem_cons_self ..
        · rw [Int.min_eq_right h]; exact List.mem_cons_of_mem _ (List.mem_cons_self ..)
      · exact List.mem_cons_of_mem _ (List.mem_cons_of_mem _ h2)
theorem foldl_max {a m : Int} : ∀ (l : List Int) (a : Int), (∀ x ∈ a :: l, x ≤ l.foldl max a) ∧ l.foldl max a ∈ a :: l
  | [], a => by simp
  | b :: l, a => by
    obtain ⟨h1, h2⟩ := foldl_max (a := a) (m := m) l (max a b)
    rw [List.foldl_cons]
    refine ⟨fun x hx => ?_, ?_⟩
    · have h3 := h1 _ (List.mem_cons_self ..)
      rcases List.mem_cons.1 hx with rfl | hx
      · omega
      · rcases List.mem_cons.1 hx with rfl | hx
        · omega
        · exact h1 x (List.mem_cons_of_mem _ hx)
    · rcases List.mem_cons.1 h2 with h2 | h2
      · rw [h2]
        rcases Int.le_total a b with h | h
        · rw [Int.max_eq_right h]; exact List.mem_cons_of_mem _ (List.mem_cons_self ..)
        · rw [Int.max_eq_left h]; exact List.mem_cons_self ..
      · exact List.mem_cons_of_mem _ (List.mem_cons_of_mem _ h2)
end Go.Dec
end
section
namespace Go.Dec
def span (a b : Int) : List Int := (List.range (b + 1 - a).toNat).map fun j : Nat => a + j
def down (b a : Int) : List Int := (List.range (b + 1 - a).toNat).map fun j : Nat => b - j
theorem span_mem' {a b x : Int} : x ∈ span a b ↔ a ≤ x ∧ x ≤ b := by
  simp only [span, List.mem_map, List.mem_range]
  constructor
  · rintro ⟨j, h, rfl⟩; omega
  · intro h; exact ⟨(x - a).toNat, by omega, by omega⟩
theorem span_len (a b : Int) : (span a b).length = (b + 1 - a).toNat := by simp [span]
theorem span_nil {a b : Int} (h : b < a) : span a b = [] := by
  have : (b + 1 - a).toNat = 0 := by omega
  simp [span, this]
theorem span_cons {a b : Int} (h : a ≤ b) : span a b = a :: span (a + 1) b := by
  have : (b + 1 - a).toNat = (b + 1 - (a + 1)).toNat + 1 := by omega
  unfold span
  rw [this, List.range_succ_eq_map, List.map_cons, List.map_map]
  simp only [Int.natCast_zero, Int.add_zero]
  congr 1
  apply List.map_congr_left
  intro j _
  simp only [Function.comp]
  omega
/-- an iterator that counts up -/
theorem loop_up {σ ρ : Type} (cs : σ → Int → Option (σ ⊕ ρ)) {step : Int × σ → Option ((Int × σ) ⊕ (σ ⊕ ρ))} {hi : Int} : ∀ (k : Nat) (lo : Int) (s : σ) (n : Nat), (hi + 1 - lo).toNat = k →
    (∀ b s, lo ≤ b → b ≤ hi → step (b, s) = (cs s b).bind fun y => match y with | .inl s' => some (.inl (b + 1, s')) | .inr e => some (.inr (.inr e))) → (∀ b s, hi < b → b ≤ max lo (hi + 1) → step (b, s) = some (.inr (.inl s))) → k < n →
    loopO n step (lo, s) = foldO cs s (span lo hi) := by
  intro k
  induction k with
  | zero =>
    intro lo s n hk _ hd hn
    rw [span_nil (by omega), loop_done (hd lo s (by omega) (by omega)) hn]
    rfl
  | succ k ih =>
    intro lo s n hk h hd hn
    obtain ⟨m, rfl⟩ : ∃ k, n = k + 1 := ⟨n - 1, by omega⟩
    rw [span_cons (by omega), loopO_succ, h lo s (by omega) (by omega)]
    simp only [foldO]
    cases cs s lo with
    | none => rfl
    | some y => cases y with
      | inl s' =>
        simp only [Option.bind_some]
        exact ih (lo + 1) s' m (by omega) (fun b s h1 h2 => h b s (by omega) h2) (fun b s h1 h2 => hd b s h1 (by omega)) (by omega)
      | inr e => rfl
theorem foldO_flatMap {σ ρ α β : Type} {cs : σ → α → Option (σ ⊕ ρ)} (f : β → List α) : ∀ (l : List β) (s : σ), foldO cs s (l.flatMap f) = foldO (fun s b => foldO cs s (f b)) s l
  | [], s => by simp [foldO]
  | b :: l, s => by
    rw [List.flatMap_cons, foldO_append, foldO]
    congr 1
    funext y
    cases y with
    | inl s' => exact foldO_flatMap f l s'
    | inr r => rfl
theorem foldO_map {σ ρ α β : Type} {cs : σ → α → Option (σ ⊕ ρ)} (f : β → α) : ∀ (l : List β) (s : σ), foldO cs s (l.map f) = foldO (fun s b => cs s (f b)) s l
  | [], s => by simp [foldO]
  | b :: l, s => by
    rw [List.map_cons, foldO, foldO]
    congr 1
    funext y
    cases y with
    | inl s' => exact foldO_map f l s'
    | inr r => rfl
/-- a loop over a span that folds -/
theorem loop_span_fold {S R β : Type} {step : S → Option (S ⊕ R)} (enc : Int → β → S) (g : β → Int → β) (fin : β → R) (I : Int → β → Prop) {hi : Int} : ∀ (k : Nat) (lo : Int) (b0 : β) (n : Nat), (hi + 1 - lo).toNat = k → I lo b0 →
    (∀ i b, lo ≤ i → i ≤ hi → I i b → step (enc i b) = some (.inl (enc (i + 1) (g b i))) ∧ I (i + 1) (g b i)) → (∀ i b, hi < i → i ≤ max lo (hi + 1) → I i b → step (enc i b) = some (.inr (fin b))) → k < n →
    loopO n step (enc lo b0) = some (fin ((span lo hi).foldl g b0)) ∧ I (max lo (hi + 1)) ((span lo hi).foldl g b0) := by
  intro k
  induction k with
  | zero =>
    intro lo b0 n hk h0 _ hd hn
    rw [span_nil (by omega), loop_done (hd lo b0 (by omega) (by omega) h0) hn]
    rw [show max lo (hi + 1) = lo by omega]
    exact ⟨rfl, h0⟩
  | succ k ih =>
    intro lo b0 n hk h0 h hd hn
    obtain ⟨m, rfl⟩ : ∃ k, n = k + 1 := ⟨n - 1, by omega⟩
    obtain ⟨h1, h2⟩ := h lo b0 (by omega) (by omega) h0
    rw [span_cons (by omega), loopO_succ, h1, List.foldl_cons]
    have := ih (lo + 1) (g b0 lo) m (by omega) h2 (fun i b h1 h2 => h i b (by omega) h2) (fun i b h1 h2 => hd i b h1 (by omega)) (by omega)
    rw [show max (lo + 1) (hi + 1) = max lo (hi + 1) by omega] at this
    exact this
theorem loop_gcd {step : Int × Int → Option ((Int × Int) ⊕ Int)} (h0 : ∀ a, step (a, 0) = some (.inr a)) (h : ∀ a b, b ≠ 0 → step (a, b) = some (.inl (b, a.tmod b))) : ∀ (y x n : Nat), y < n → loopO n step ((x : Int), (y : Int)) = some ((Nat.gcd x y : Nat) : Int) := by
  intro y
  induction y using Nat.strongRecOn with
  | _ y ih =>
    intro x n hn
    obtain ⟨m, rfl⟩ : ∃ k, n = k + 1 := ⟨n - 1, by omega⟩
    rw [loopO_succ]
    by_cases hy : y = 0
    · subst hy
      have := h0 (x : Int)
      simp only [Int.natCast_zero] at *
      rw [this]; simp
    · rw [h _ _ (by omega)]
      simp only
      rw [← Int.ofNat_tmod]
      have hlt := Nat.mod_lt x (Nat.pos_of_ne_zero hy)
      rw [ih (x % y) hlt y m (by omega)]
      rw [Nat.gcd_comm x y, Nat.gcd_rec y x, Nat.gcd_comm]
theorem mul_in {x y A C : Int} (h1 : 0 ≤ x) (h2 : x ≤ A) (h3 : 0 ≤ y) (h4 : y ≤ C) : 0 ≤ x * y ∧ x * y ≤ A * C := by
  refine ⟨Int.mul_nonneg h1 h3, ?_⟩
  have a := Int.mul_le_mul_of_nonneg_right h2 h3
  have b := Int.mul_le_mul_of_nonneg_left h4 (show 0 ≤ A by omega)
  omega
theorem mul_abs {x y A C : Int} (h1 : -A ≤ x) (h2 : x ≤ A) (h3 : 0 ≤ y) (h4 : y ≤ C) : -(A * C) ≤ x * y ∧ x * y ≤ A * C := by
  have hA : 0 ≤ A := by omega
  have a := Int.mul_le_mul_of_nonneg_right h2 h3
  have a' := Int.mul_le_mul_of_nonneg_right h1 h3
  have b := Int.mul_le_mul_of_nonneg_left h4 hA
  rw [Int.neg_mul] at a'
  omega
end Go.Dec
end
section
namespace Go.Proofs.YtcipdblhopffbaaGreat
open Go Go.RowKit Go.Dec
set_option linter.unusedVariables false
theorem or_br (c b : Bool) : (if c = true then some true else some b) = some (c || b) := by cases c <;> rfl
theorem and_br (c b : Bool) : (if c = true then some b else some false) = some (c && b) := by cases c <;> rfl
theorem lt_nat (i k : Nat) : decide ((i : Int) < (k : Int)) = decide (i < k) := by simp
def wi (n lo hi : Int) : Bool := decide (lo ≤ n) && decide (n ≤ hi)
theorem wi_t {n lo hi : Int} : wi n lo hi = true ↔ lo ≤ n ∧ n ≤ hi := by simp [wi]
theorem p_within (n : Nat) (a b c : Int) : F_frames_within n a b c = some (wi a b c) := rfl
def okSpan (s : Span) : Bool := wi s.Low 1 s.High && decide (s.High ≤ 2000) && decide (w64 (s.High - s.Low) ≤ 6)
def okShare (x : Frac) : Bool := wi x.Den 1 20 && wi x.Num 0 x.Den
def okSec (s : Section) : Bool := okSpan s.Arm && okSpan s.Stretch && wi s.Base 0 2000 && okShare s.Gear
def okF (f : Frame) : Bool := wi f.Sections.length 1 3 && f.Sections.all okSec && (wi f.Low 1 f.High && decide (f.High ≤ 2000) && decide (w64 (f.High - f.Low) ≤ 200)) && okShare f.Ease && wi f.Rod 0 4000 && wi f.Case 0 4000
structure SecOk (s : Section) : Prop where
  a : 1 ≤ s.Arm.Low ∧ s.Arm.Low ≤ s.Arm.High ∧ s.Arm.High ≤ 2000 ∧ s.Arm.High - s.Arm.Low ≤ 6
  b : 1 ≤ s.Stretch.Low ∧ s.Stretch.Low ≤ s.Stretch.High ∧ s.Stretch.High ≤ 2000 ∧ s.Stretch.High - s.Stretch.Low ≤ 6
  c : 0 ≤ s.Base ∧ s.Base ≤ 2000
  d : 1 ≤ s.Gear.Den ∧ s.Gear.Den ≤ 20 ∧ 0 ≤ s.Gear.Num ∧ s.Gear.Num ≤ s.Gear.Den
structure FOk (f : Frame) : Prop where
  n : 1 ≤ f.Sections.length ∧ f.Sections.length ≤ 3
  s : ∀ s ∈ f.Sections, SecOk s
  r : 1 ≤ f.Low ∧ f.Low ≤ f.High ∧ f.High ≤ 2000 ∧ f.High - f.Low ≤ 200
  e : 1 ≤ f.Ease.Den ∧ f.Ease.Den ≤ 20 ∧ 0 ≤ f.Ease.Num ∧ f.Ease.Num ≤ f.Ease.Den
  rod : 0 ≤ f.Rod ∧ f.Rod ≤ 4000
  case : 0 ≤ f.Case ∧ f.Case ≤ 4000
theorem okSpan_iff {s : Span} : okSpan s = true ↔ 1 ≤ s.Low ∧ s.Low ≤ s.High ∧ s.High ≤ 2000 ∧ s.High - s.Low ≤ 6 := by
  simp only [okSpan, Bool.and_eq_true, wi_t, decide_eq_true_eq]
  constructor
  · rintro ⟨⟨⟨h1, h2⟩, h3⟩, h4⟩
    rw [w64_id (by omega) (by omega)] at h4
    exact ⟨h1, h2, h3, h4⟩
  · rintro ⟨h1, h2, h3, h4⟩
    refine ⟨⟨⟨h1, h2⟩, h3⟩, ?_⟩
    rw [w64_id (by omega) (by omega)]; exact h4
theorem okShare_iff {x : Frac} : okShare x = true ↔ 1 ≤ x.Den ∧ x.Den ≤ 20 ∧ 0 ≤ x.Num ∧ x.Num ≤ x.Den := by
  simp only [okShare, Bool.and_eq_true, wi_t]
  constructor
  · rintro ⟨⟨h1, h2⟩, h3, h4⟩; exact ⟨h1, h2, h3, h4⟩
  · rintro ⟨h1, h2, h3, h4⟩; exact ⟨⟨h1, h2⟩, h3, h4⟩
theorem okSec_iff {s : Section} : okSec s = true ↔ SecOk s := by
  simp only [okSec, Bool.and_eq_true, okSpan_iff, okShare_iff, wi_t]
  constructor
  · rintro ⟨⟨⟨h1, h2⟩, h3⟩, h4⟩; exact ⟨h1, h2, h3, h4⟩
  · rintro ⟨h1, h2, h3, h4⟩; exact ⟨⟨⟨h1, h2⟩, h3⟩, h4⟩
theorem okF_iff {f : Frame} : okF f = true ↔ FOk f := by
  simp only [okF, Bool.and_eq_true, okShare_iff, wi_t, List.all_eq_true, okSec_iff, decide_eq_true_eq]
  constructor
  · rintro ⟨⟨⟨⟨⟨h1, h2⟩, ⟨h3, h4⟩, h5⟩, h6⟩, h7⟩, h8⟩
    rw [w64_id (by omega) (by omega)] at h5
    exact ⟨by omega, h2, by omega, h6, h7, h8⟩
  · rintro ⟨h1, h2, h3, h4, h5, h6⟩
    refine ⟨⟨⟨⟨⟨by omega, h2⟩, ⟨by omega, by omega⟩, ?_⟩, h4⟩, h5⟩, h6⟩
    rw [w64_id (by omega) (by omega)]; omega
section
variable {n : Nat} (hn : 100000000 ≤ n)
include hn
theorem p_ContainsSec (s : List Section) (f : Section → Option Bool) (p : Section → Bool) (hf : ∀ x, x ∈ s → f x = some (p x)) (hs : s.length ≤ 1000) : F_slices_ContainsFunc___api_Section_api_Section_ n s f = some (s.any p) := by
  have : ∃ k, F_slices_IndexFunc___api_Section_api_Section_ n s f = some k ∧ decide (0 ≤ k) = s.any p := by
    by_cases h : s.any p = true
    · have : ∃ i : Nat, ∃ x, s[i]? = some x ∧ p x = true ∧ ∀ (j : Nat) y, j < i → s[j]? = some y → p y = false := first_of h
      obtain ⟨i, x, h1, h2, h3⟩ := this
      have hil := (List.getElem?_eq_some_iff.1 h1).1
      refine ⟨i, ?_, by rw [h]; simp⟩
      have := loop_run (step := F_slices_IndexFunc___api_Section_api_Section__s1 n s f) (fun j => (j : Int)) (r := .inl (i : Int)) i 0 n (fun j _ hj => ?_) ?_ (by omega)
      · unfold F_slices_IndexFunc___api_Section_api_Section_
        simp only [Int.natCast_zero] at this
        rw [this]; rfl
      · have hj' : j < s.length := by omega
        have e : s[j]? = some s[j] := List.getElem?_eq_getElem hj'
        simp only [F_slices_IndexFunc___api_Section_api_Section__s1, geti_nat, e, Option.bind_some, hf _ (List.getElem_mem hj'), h3 j _ (by omega) e, lt_nat, hj', decide_true, if_true, Bool.false_eq_true, if_false, w64_nat (show j ≤ 4611686018427387904 by omega)]
      · simp only [Nat.zero_add, F_slices_IndexFunc___api_Section_api_Section__s1, geti_nat, h1, Option.bind_some, hf _ (List.mem_of_getElem? h1), h2, lt_nat, hil, decide_true, if_true]
    · have hno : ∀ x ∈ s, p x = false := fun x hx => by
        cases hp : p x with
        | false => rfl
        | true => exact absurd (List.any_eq_true.2 ⟨x, hx, hp⟩) h
      refine ⟨-1, ?_, by simp only [Bool.not_eq_true] at h; rw [h]; rfl⟩
      have := loop_all_l (step := F_slices_IndexFunc___api_Section_api_Section__s1 n s f) s (fun _ => true) (0 : Int) (n := n) (by omega) (fun i x hx hi => ?_) ?_ (by omega)
      · unfold F_slices_IndexFunc___api_Section_api_Section_; rw [this, show (s.all fun _ => true) = true by simp]; rfl
      · simp only [F_slices_IndexFunc___api_Section_api_Section__s1, geti_nat, hx, Option.bind_some, hf _ (List.mem_of_getElem? hx), hno _ (List.mem_of_getElem? hx), lt_nat, hi, decide_true, if_true, cond_true, Bool.false_eq_true, if_false, w64_nat (show i ≤ 4611686018427387904 by omega)]
      · simp [F_slices_IndexFunc___api_Section_api_Section__s1]
  obtain ⟨k, h1, h2⟩ := this
  simp only [F_slices_ContainsFunc___api_Section_api_Section_, h1, Option.bind_some, h2]
theorem p_Check_1 (s : Section) : F_frames_Check_1 n s = some (!okSec s) := by
  have _hn := hn
  simp only [F_frames_Check_1, F_frames_isPart, F_frames_isShare, p_within, Option.bind_some, and_br, or_br]
  have e : (!(wi s.Arm.Low 1 s.Arm.High && decide (s.Arm.High ≤ 2000) && decide (w64 (s.Arm.High - s.Arm.Low) ≤ 6)) || !(wi s.Stretch.Low 1 s.Stretch.High && decide (s.Stretch.High ≤ 2000) && decide (w64 (s.Stretch.High - s.Stretch.Low) ≤ 6)) || !wi s.Base 0 2000 || !(wi s.Gear.Den 1 20 && wi s.Gear.Num 0 s.Gear.Den)) = !okSec s := by
    simp only [okSec, okSpan, okShare, Bool.not_and, Bool.or_assoc]
  rw [e]
theorem p_Check {f : Frame} (hl : f.Sections.length ≤ 1000) : F_frames_Check n f = some (if okF f = true then 0 else 10) := by
  simp only [F_frames_Check, F_frames_isShare, p_within, Option.bind_some, and_br, or_br, p_ContainsSec hn f.Sections (fun a => F_frames_Check_1 n a) (fun s => !okSec s) (fun s _ => p_Check_1 hn s) hl]
  have e0 : (f.Sections.any fun s => !okSec s) = !f.Sections.all okSec := by simp [List.any_eq_not_all_not]
  rw [e0]
  have e : (!wi f.Sections.length 1 3 || !f.Sections.all okSec || !(wi f.Low 1 f.High && decide (f.High ≤ 2000) && decide (w64 (f.High - f.Low) ≤ 200)) || !(wi f.Ease.Den 1 20 && wi f.Ease.Num 0 f.Ease.Den) || !wi f.Rod 0 4000 || !wi f.Case 0 4000) = !okF f := by
    simp only [okF, okShare, Bool.not_and, Bool.or_assoc]
  rw [e]
  cases okF f <;> rfl
end
def gearStep (r : Int) (s : Section) : Int := s.Base + (r * s.Gear.Num).tdiv s.Gear.Den
def dist (f : Frame) (i : Nat) (r : Int) : Int := ((f.Sections.take (i + 1)).drop 1).foldl gearStep r
theorem gear_in {s : Section} (hs : SecOk s) {r A : Int} (h0 : 0 ≤ r) (hA : r ≤ A) : 0 ≤ gearStep r s ∧ gearStep r s ≤ 2000 + A ∧ 0 ≤ r * s.Gear.Num ∧ r * s.Gear.Num ≤ A * 20 ∧ 0 ≤ (r * s.Gear.Num).tdiv s.Gear.Den ∧ (r * s.Gear.Num).tdiv s.Gear.Den ≤ A := by
  obtain ⟨_, _, hc, hd⟩ := hs
  have h1 := mul_in h0 hA hd.2.2.1 (show s.Gear.Num ≤ 20 by omega)
  have h2 : r * s.Gear.Num ≤ r * s.Gear.Den := Int.mul_le_mul_of_nonneg_left hd.2.2.2 h0
  have h3 : (r * s.Gear.Num).tdiv s.Gear.Den = r * s.Gear.Num / s.Gear.Den := Int.tdiv_eq_ediv_of_nonneg h1.1
  have h4 : 0 ≤ r * s.Gear.Num / s.Gear.Den := Int.ediv_nonneg h1.1 (by omega)
  have h5 : r * s.Gear.Num / s.Gear.Den ≤ r := Int.ediv_le_of_le_mul (by omega) h2
  rw [h3]
  unfold gearStep
  rw [h3]
  refine ⟨by omega, by omega, h1.1, h1.2, h4, by omega⟩
theorem fold_in : ∀ (l : List Section) (r A : Int), (∀ s ∈ l, SecOk s) → 0 ≤ r → r ≤ A → 0 ≤ l.foldl gearStep r ∧ l.foldl gearStep r ≤ A + 2000 * l.length
  | [], r, A, _, h1, h2 => by simp; omega
  | s :: l, r, A, hs, h1, h2 => by
    obtain ⟨k1, k2, _⟩ := gear_in (hs s (List.mem_cons_self ..)) h1 h2
    have := fold_in l (gearStep r s) (2000 + A) (fun x hx => hs x (List.mem_cons_of_mem _ hx)) k1 k2
    simp only [List.foldl_cons, List.length_cons]
    omega
theorem dist_in {f : Frame} (hf : FOk f) {r : Int} (hr : 0 ≤ r ∧ r ≤ 2000) (i : Nat) : 0 ≤ dist f i r ∧ dist f i r ≤ 6000 := by
  have h := fold_in ((f.Sections.take (i + 1)).drop 1) r 2000 (fun s hs => hf.s s (List.mem_of_mem_take (List.mem_of_mem_drop hs))) hr.1 hr.2
  have hl : ((f.Sections.take (i + 1)).drop 1).length ≤ 2 := by
    have := hf.n
    simp only [List.length_drop, List.length_take]
    omega
  unfold dist
  omega
section
variable {n : Nat} (hn : 100000000 ≤ n)
include hn
theorem p_distance {f : Frame} (hf : FOk f) {i : Nat} (hi : i < f.Sections.length) {r : Int} (hr : 0 ≤ r ∧ r ≤ 2000) : F_frames_distance n f i r = some (dist f i r) := by
  have hl := hf.n
  have e1 : w64 ((i : Int) + 1) = ((i + 1 : Nat) : Int) := w64_nat (by omega)
  have e2 : slc f.Sections 1 (((i + 1 : Nat) : Int)) = some ((f.Sections.take (i + 1)).drop 1) := by
    unfold slc
    rw [if_pos (by omega)]
    simp
  simp only [F_frames_distance, e1, e2, Option.bind_some]
  have hlen : ((f.Sections.take (i + 1)).drop 1).length ≤ 2 := by simp; omega
  have := loop_fold (step := F_frames_distance_s1 n ((f.Sections.take (i + 1)).drop 1)) ((f.Sections.take (i + 1)).drop 1) (fun j r => (r, (j : Int))) gearStep (fun r => r) (fun j r => 0 ≤ r ∧ r ≤ 2000 + 2000 * j) (n := n) r (by omega) (fun j s b hj hb => by
    have hjl := (List.getElem?_eq_some_iff.1 hj).1
    have hs := hf.s s (List.mem_of_mem_take (List.mem_of_mem_drop (List.mem_of_getElem? hj)))
    obtain ⟨k1, k2, k3, k4, k5, k6⟩ := gear_in hs hb.1 hb.2
    refine ⟨?_, k1, by omega⟩
    have hd := hs.d
    have hc := hs.c
    have hnz : nz s.Gear.Den = some () := by unfold nz; rw [if_neg (by omega)]
    have hge : gearStep b s = s.Base + (b * s.Gear.Num).tdiv s.Gear.Den := rfl
    simp only [F_frames_distance_s1, geti_nat, hj, Option.bind_some, hnz, lt_nat, hjl, decide_true, if_true, w64_nat (show j ≤ 4611686018427387904 by omega)]
    rw [w64_id (n := b * s.Gear.Num) (by omega) (by omega), w64_id (n := (b * s.Gear.Num).tdiv s.Gear.Den) (by omega) (by omega), w64_id (by omega) (by omega), hge]) (fun b _ => by simp [F_frames_distance_s1]) (by omega)
  simp only [Int.natCast_zero] at this
  rw [this.1]
  rfl
end
def sidesL (s : Section) : List frames_sides := (span s.Arm.Low s.Arm.High).flatMap fun a => (span s.Stretch.Low s.Stretch.High).map fun b => ⟨a, b⟩
theorem sides_mem {s : Section} {x : frames_sides} : x ∈ sidesL s ↔ (s.Arm.Low ≤ x.arm ∧ x.arm ≤ s.Arm.High) ∧ (s.Stretch.Low ≤ x.stretch ∧ x.stretch ≤ s.Stretch.High) := by
  simp only [sidesL, List.mem_flatMap, List.mem_map, span_mem']
  constructor
  · rintro ⟨a, ha, b, hb, rfl⟩; exact ⟨ha, hb⟩
  · rintro ⟨ha, hb⟩; exact ⟨x.arm, ha, x.stretch, hb, rfl⟩
def cosF (d : Int) (x : frames_sides) : Frac := ⟨d * d + x.arm * x.arm - x.stretch * x.stretch, 2 * d * x.arm⟩
def ltF (x y : Frac) : Bool := decide (x.Num * y.Den < y.Num * x.Den)
structure XOk (x : frames_sides) : Prop where
  a : 1 ≤ x.arm ∧ x.arm ≤ 2000
  b : 1 ≤ x.stretch ∧ x.stretch ≤ 2000
theorem sides_ok {s : Section} (hs : SecOk s) {x : frames_sides} (h : x ∈ sidesL s) : XOk x := by
  have := sides_mem.1 h
  have := hs.a; have := hs.b
  exact ⟨by omega, by omega⟩
/-- a cosine's numbers stay small -/
def FracOk (x : Frac) : Prop := (1 ≤ x.Den ∧ x.Den ≤ 24000000) ∧ -40000000 ≤ x.Num ∧ x.Num ≤ 40000000
theorem cos_ok {d : Int} (hd : 1 ≤ d ∧ d ≤ 6000) {x : frames_sides} (hx : XOk x) : FracOk (cosF d x) ∧ (0 ≤ d * d ∧ d * d ≤ 36000000) ∧ (0 ≤ x.arm * x.arm ∧ x.arm * x.arm ≤ 4000000) ∧ (0 ≤ x.stretch * x.stretch ∧ x.stretch * x.stretch ≤ 4000000) := by
  have h1 := mul_in (show 0 ≤ d by omega) hd.2 (show 0 ≤ d by omega) hd.2
  have h2 := mul_in (show 0 ≤ x.arm by have := hx.a; omega) hx.a.2 (show 0 ≤ x.arm by have := hx.a; omega) hx.a.2
  have h3 := mul_in (show 0 ≤ x.stretch by have := hx.b; omega) hx.b.2 (show 0 ≤ x.stretch by have := hx.b; omega) hx.b.2
  have h4 := mul_in (show 0 ≤ 2 * d by omega) (show 2 * d ≤ 12000 by omega) (show 0 ≤ x.arm by have := hx.a; omega) hx.a.2
  have h5 : 1 * 1 ≤ 2 * d * x.arm := Int.mul_le_mul (by omega) hx.a.1 (by omega) (by omega)
  refine ⟨⟨⟨by simp only [cosF]; omega, by simp only [cosF]; omega⟩, by simp only [cosF]; omega, by simp only [cosF]; omega⟩, by omega, by omega, by omega⟩
theorem p_cosine (n : Nat) {d : Int} (hd : 1 ≤ d ∧ d ≤ 6000) {x : frames_sides} (hx : XOk x) : F_frames_sides_cosine n x d = some (cosF d x) := by
  obtain ⟨⟨⟨k1, k2⟩, k3, k4⟩, h1, h2, h3⟩ := cos_ok hd hx
  simp only [cosF] at k1 k2 k3 k4
  simp only [F_frames_sides_cosine, cosF]
  rw [w64_id (n := d * d) (by omega) (by omega), w64_id (n := x.arm * x.arm) (by omega) (by omega), w64_id (n := x.stretch * x.stretch) (by omega) (by omega), w64_id (n := 2 * d) (by omega) (by omega), w64_id (n := 2 * d * x.arm) (by omega) (by omega), w64_id (n := d * d + x.arm * x.arm) (by omega) (by omega), w64_id (by omega) (by omega)]
def cmpF (x y : Frac) : Int := if x.Num * y.Den < y.Num * x.Den then -1 else if y.Num * x.Den < x.Num * y.Den then 1 else 0
theorem p_compare (n : Nat) {x y : Frac} (h1 : -40000000 ≤ x.Num ∧ x.Num ≤ 40000000 ∧ 0 ≤ x.Den ∧ x.Den ≤ 24000000) (h2 : -40000000 ≤ y.Num ∧ y.Num ≤ 40000000 ∧ 0 ≤ y.Den ∧ y.Den ≤ 24000000) : F_frames_compare n x y = some (cmpF x y) := by
  have a := mul_abs h1.1 h1.2.1 h2.2.2.1 h2.2.2.2
  have b := mul_abs h2.1 h2.2.1 h1.2.2.1 h1.2.2.2
  simp only [F_frames_compare, F_cmp_Compare_int_, F_cmp_isNaN_int_, Option.bind_some, bne_self_eq_false, Bool.false_eq_true, if_false]
  rw [w64_id (n := x.Num * y.Den) (by omega) (by omega), w64_id (n := y.Num * x.Den) (by omega) (by omega)]
  unfold cmpF
  by_cases h : x.Num * y.Den < y.Num * x.Den
  · simp [h]
  · by_cases h' : y.Num * x.Den < x.Num * y.Den
    · simp [h, h']
    · simp [h, h']
theorem cmp_lt {x y : Frac} : (cmpF x y < 0) ↔ ltF x y = true := by
  unfold cmpF ltF
  split
  · simp [*]
  · split
    · simp [*]
    · simp [*]
theorem cmp_gt {x y : Frac} : (0 < cmpF x y) ↔ ltF y x = true := by
  unfold cmpF ltF
  split
  · rename_i h
    simp; omega
  · split
    · simp [*]
    · simp [*]
def red (x : Frac) : Frac := ⟨x.Num.tdiv (Int.gcd x.Num x.Den : Nat), x.Den.tdiv (Int.gcd x.Num x.Den : Nat)⟩
theorem red_spec {x : Frac} (h : 1 ≤ x.Den) : ∃ g : Int, 1 ≤ g ∧ g = (Int.gcd x.Num x.Den : Nat) ∧ x.Num = g * (red x).Num ∧ x.Den = g * (red x).Den ∧ 1 ≤ (red x).Den := by
  have hg : 0 < Int.gcd x.Num x.Den := Int.gcd_pos_of_ne_zero_right _ (by omega)
  obtain ⟨a, ha⟩ := Int.gcd_dvd_left x.Num x.Den
  obtain ⟨b, hb⟩ := Int.gcd_dvd_right x.Num x.Den
  have hne : ((Int.gcd x.Num x.Den : Nat) : Int) ≠ 0 := by omega
  have ea : (red x).Num = a := by
    show x.Num.tdiv _ = a
    conv => lhs; arg 1; rw [ha]
    exact Int.mul_tdiv_cancel_left _ hne
  have eb : (red x).Den = b := by
    show x.Den.tdiv _ = b
    conv => lhs; arg 1; rw [hb]
    exact Int.mul_tdiv_cancel_left _ hne
  refine ⟨(Int.gcd x.Num x.Den : Nat), by omega, rfl, by rw [ea]; exact ha, by rw [eb]; exact hb, ?_⟩
  rw [eb]
  rcases Int.lt_or_le 0 b with h' | h'
  · omega
  · exfalso
    have := Int.mul_le_mul_of_nonneg_left h' (show 0 ≤ ((Int.gcd x.Num x.Den : Nat) : Int) by omega)
    omega
/-- reduced numbers are no greater -/
theorem red_ok {x : Frac} (h : FracOk x) : FracOk (red x) := by
  obtain ⟨⟨h1, h2⟩, h3, h4⟩ := h
  obtain ⟨g, k1, _, k2, k3, k4⟩ := red_spec h1
  refine ⟨⟨k4, ?_⟩, ?_, ?_⟩
  · have := Int.mul_le_mul_of_nonneg_right k1 (show 0 ≤ (red x).Den by omega)
    omega
  · rcases Int.lt_or_le (red x).Num 0 with h | h
    · have := Int.mul_le_mul_of_nonneg_right k1 (show 0 ≤ -(red x).Num by omega)
      rw [Int.mul_neg, Int.mul_neg] at this
      omega
    · omega
  · rcases Int.lt_or_le (red x).Num 0 with h | h
    · omega
    · have := Int.mul_le_mul_of_nonneg_right k1 h
      omega
theorem gcd_abs (a b : Int) (hb : 0 ≤ b) : (Nat.gcd a.natAbs b.toNat : Nat) = Int.gcd a b := by
  unfold Int.gcd
  congr 1
  omega
theorem p_gcd {n : Nat} (hn : 100000000 ≤ n) {x : Frac} (h : FracOk x) (step : Int × Int → Option ((Int × Int) ⊕ Int)) (h0 : ∀ a, step (a, 0) = some (.inr a)) (hs : ∀ a b, b ≠ 0 → step (a, b) = some (.inl (b, a.tmod b))) :
    loopO n step (max x.Num (w64 (-x.Num)), x.Den) = some ((Int.gcd x.Num x.Den : Nat) : Int) := by
  obtain ⟨⟨h1, h2⟩, h3, h4⟩ := h
  have e : max x.Num (w64 (-x.Num)) = (x.Num.natAbs : Int) := by rw [w64_id (by omega) (by omega)]; omega
  have e2 : x.Den = (x.Den.toNat : Int) := by omega
  rw [e]
  conv => lhs; arg 3; rw [e2]
  rw [loop_gcd h0 hs x.Den.toNat x.Num.natAbs n (by omega), gcd_abs _ _ (by omega)]
theorem red_w {x : Frac} (h : FracOk x) : w64 (x.Num.tdiv (Int.gcd x.Num x.Den : Nat)) = (red x).Num ∧ w64 (x.Den.tdiv (Int.gcd x.Num x.Den : Nat)) = (red x).Den ∧ nz ((Int.gcd x.Num x.Den : Nat) : Int) = some () := by
  obtain ⟨⟨h1, h2⟩, h3, h4⟩ := red_ok h
  obtain ⟨g, k1, k2, _⟩ := red_spec h.1.1
  refine ⟨w64_id (n := (red x).Num) (by omega) (by omega), w64_id (n := (red x).Den) (by omega) (by omega), ?_⟩
  unfold nz; rw [if_neg (by omega)]
theorem p_reduced {n : Nat} (hn : 100000000 ≤ n) {x : Frac} (h : FracOk x) : F_frames_reduced n x = some (red x) := by
  have := p_gcd hn h (F_frames_reduced_s1 n) (fun a => by simp [F_frames_reduced_s1]) (fun a b hb => by
    have hz : nz b = some () := by unfold nz; rw [if_neg hb]
    simp [F_frames_reduced_s1, hb, hz])
  obtain ⟨h1, h2, h3⟩ := red_w h
  simp only [F_frames_reduced, this, Option.bind_some, h1, h2, h3]
end Go.Proofs.YtcipdblhopffbaaGreat
end
section
namespace Go.Proofs.YtcipdblhopffbaaGreat
open Go Go.RowKit Go.Dec
set_option linter.unusedVariables false
def knownI (so all : Nat) : Int := if (so : Int) == (all : Int) then 1 else if (so : Int) == 0 then 2 else 3
def K (s : Section) (p : frames_sides → Bool) : Int := knownI ((sidesL s).countP p) (sidesL s).length
def secAt (f : Frame) (i : Nat) : Section := (f.Sections[i]?).getD ⟨⟨0, 0⟩, ⟨0, 0⟩, 0, ⟨0, 0⟩⟩
def askT (f : Frame) (sec r : Int) : Int := if okF f = true then (if (wi sec 0 ((f.Sections.length : Int) - 1) && wi r f.Low f.High) = true then 0 else 1) else 10
def lowF (d : Int) : List frames_sides → Frac
  | [] => ⟨0, 0⟩
  | a :: l => l.foldl (fun m x => if ltF (cosF d x) m = true then cosF d x else m) (cosF d a)
def highF (d : Int) : List frames_sides → Frac
  | [] => ⟨0, 0⟩
  | a :: l => l.foldl (fun m x => if ltF m (cosF d x) = true then cosF d x else m) (cosF d a)
def cosineT (f : Frame) (sec r : Int) : Frac × Frac × Int :=
  if askT f sec r = 0 then (if dist f sec.toNat r = 0 then (⟨0, 0⟩, ⟨0, 0⟩, 3) else (red (lowF (dist f sec.toNat r) (sidesL (secAt f sec.toNat))), red (highF (dist f sec.toNat r) (sidesL (secAt f sec.toNat))), 0)) else (⟨0, 0⟩, ⟨0, 0⟩, askT f sec r)
theorem secAt_get {f : Frame} {i : Nat} (h : i < f.Sections.length) : f.Sections[i]? = some (secAt f i) := by simp [secAt, h]
theorem secAt_mem {f : Frame} {i : Nat} (h : i < f.Sections.length) : secAt f i ∈ f.Sections := List.mem_of_getElem? (secAt_get h)
theorem askT_ok {f : Frame} {sec r : Int} (h : askT f sec r = 0) : FOk f ∧ (sec = (sec.toNat : Int) ∧ sec.toNat < f.Sections.length) ∧ f.Low ≤ r ∧ r ≤ f.High := by
  unfold askT at h
  by_cases ho : okF f = true
  · rw [if_pos ho] at h
    by_cases hc : (wi sec 0 ((f.Sections.length : Int) - 1) && wi r f.Low f.High) = true
    · simp only [Bool.and_eq_true, wi_t] at hc
      exact ⟨okF_iff.1 ho, ⟨by omega, by omega⟩, hc.2⟩
    · rw [if_neg hc] at h; cases h
  · rw [if_neg ho] at h; cases h
theorem low_ok {d : Int} (hd : 1 ≤ d ∧ d ≤ 6000) : ∀ (l : List frames_sides), (∀ x ∈ l, XOk x) → l ≠ [] → FracOk (lowF d l) ∧ FracOk (highF d l)
  | [], _, h => absurd rfl h
  | a :: l, hx, _ => by
    have ha := (cos_ok hd (hx a (List.mem_cons_self ..))).1
    have key : ∀ (l : List frames_sides) (m m' : Frac), (∀ x ∈ l, XOk x) → FracOk m → FracOk m' → FracOk (l.foldl (fun m x => if ltF (cosF d x) m = true then cosF d x else m) m) ∧ FracOk (l.foldl (fun m x => if ltF m (cosF d x) = true then cosF d x else m) m') := by
      intro l
      induction l with
      | nil => intro m m' _ h1 h2; exact ⟨h1, h2⟩
      | cons b l ih =>
        intro m m' hx h1 h2
        have hb := (cos_ok hd (hx b (List.mem_cons_self ..))).1
        simp only [List.foldl_cons]
        exact ih _ _ (fun x h => hx x (List.mem_cons_of_mem _ h)) (by split <;> assumption) (by split <;> assumption)
    exact key l _ _ (fun x h => hx x (List.mem_cons_of_mem _ h)) ha ha
theorem sides_ne {s : Section} (hs : SecOk s) : sidesL s ≠ [] := fun e => by
  have := hs.a; have := hs.b
  have : (⟨s.Arm.Low, s.Stretch.Low⟩ : frames_sides) ∈ sidesL s := sides_mem.2 ⟨by simp only; omega, by simp only; omega⟩
  rw [e] at this; cases this
theorem span_len7 {a b : Int} (h : b - a ≤ 6) : (span a b).length ≤ 7 := by rw [span_len]; omega
theorem flatMap_len' {α β : Type} (f : α → List β) (m : Nat) : ∀ (l : List α), (∀ x ∈ l, (f x).length ≤ m) → (l.flatMap f).length ≤ l.length * m
  | [], _ => by simp
  | a :: l, h => by
    rw [List.flatMap_cons, List.length_append, List.length_cons, Nat.succ_mul]
    have h1 := h a (List.mem_cons_self ..)
    have h2 := flatMap_len' f m l (fun x hx => h x (List.mem_cons_of_mem _ hx))
    omega
theorem sides_len {s : Section} (hs : SecOk s) : (sidesL s).length ≤ 49 := by
  have h := flatMap_len' (fun a => (span s.Stretch.Low s.Stretch.High).map fun b => (⟨a, b⟩ : frames_sides)) 7 (span s.Arm.Low s.Arm.High) (fun x _ => by rw [List.length_map]; exact span_len7 hs.b.2.2.2)
  have h2 := span_len7 hs.a.2.2.2
  have h3 : (sidesL s).length = ((span s.Arm.Low s.Arm.High).flatMap fun a => (span s.Stretch.Low s.Stretch.High).map fun b => (⟨a, b⟩ : frames_sides)).length := rfl
  rw [h3]
  omega
section
variable {n : Nat} (hn : 100000000 ≤ n)
include hn
theorem p_truths {s : Section} (hs : SecOk s) {σ ρ : Type} (cs : σ → frames_sides → Option (σ ⊕ ρ)) (st : σ) : I_frames_truths_1 n s cs st = foldO cs st (sidesL s) := by
  have ha := hs.a; have hb := hs.b
  have inner : ∀ (a : Int) (st : σ), loopO n (I_frames_truths_1_s2 s a cs) (s.Stretch.Low, st) = foldO cs st ((span s.Stretch.Low s.Stretch.High).map fun b => (⟨a, b⟩ : frames_sides)) := fun a st => by
    rw [foldO_map]
    refine loop_up (fun st b => cs st ⟨a, b⟩) _ _ _ _ rfl (fun b st h1 h2 => ?_) (fun b st h1 h2 => ?_) (by omega)
    · simp only [I_frames_truths_1_s2]
      rw [if_pos (by simpa using h2), w64_id (by omega) (by omega)]
      rfl
    · simp only [I_frames_truths_1_s2]
      rw [if_neg (by simp; omega)]
  unfold I_frames_truths_1
  rw [show sidesL s = (span s.Arm.Low s.Arm.High).flatMap fun a => (span s.Stretch.Low s.Stretch.High).map fun b => (⟨a, b⟩ : frames_sides) from rfl, foldO_flatMap]
  refine loop_up (fun st a => foldO cs st ((span s.Stretch.Low s.Stretch.High).map fun b => (⟨a, b⟩ : frames_sides))) _ _ _ _ rfl (fun b st h1 h2 => ?_) (fun b st h1 h2 => ?_) (by omega)
  · simp only [I_frames_truths_1_s1]
    rw [if_pos (by simpa using h2), inner, w64_id (by omega) (by omega)]
    rfl
  · simp only [I_frames_truths_1_s1]
    rw [if_neg (by simp; omega)]
theorem p_ask {f : Frame} (hl : f.Sections.length ≤ 1000) (sec r : Int) : F_frames_ask n f sec r = some (askT f sec r) := by
  simp only [F_frames_ask, p_Check hn hl, p_within, Option.bind_some, or_br, askT]
  by_cases ho : okF f = true
  · simp only [ho, if_true]
    rw [w64_id (by omega) (by omega)]
    cases wi sec 0 ((f.Sections.length : Int) - 1) <;> cases wi r f.Low f.High <;> rfl
  · simp [ho]
theorem p_Cosine {f : Frame} (hl : f.Sections.length ≤ 1000) (sec r : Int) : F_frames_Cosine n f sec r = some (cosineT f sec r) := by
  simp only [F_frames_Cosine, p_ask hn hl, Option.bind_some, cosineT]
  by_cases h : askT f sec r = 0
  · obtain ⟨h1, ⟨h2, h3⟩, h4⟩ := askT_ok h
    have hr := h1.r
    have hs := h1.s _ (secAt_mem h3)
    have e := p_distance hn h1 h3 (r := r) (by omega)
    rw [← h2] at e
    have hd := dist_in h1 (r := r) (by omega) sec.toNat
    have e2 : geti f.Sections sec = some (secAt f sec.toNat) := by
      have := secAt_get h3
      rw [← geti_nat, ← h2] at this
      exact this
    simp only [h, bne_self_eq_false, Bool.false_eq_true, if_false, if_true, e, Option.bind_some]
    by_cases h0 : dist f sec.toNat r = 0
    · simp [h0]
    · have h0' : (dist f sec.toNat r == 0) = false := by simpa using h0
      simp only [h0', Bool.false_eq_true, if_false, h0, e2, Option.bind_some, F_frames_truths, p_truths hn hs]
      generalize dist f sec.toNat r = d at *
      have hd' : 1 ≤ d ∧ d ≤ 6000 := by omega
      have hx : ∀ x ∈ sidesL (secAt f sec.toNat), XOk x := fun x hx => sides_ok hs hx
      have hne := sides_ne hs
      generalize sidesL (secAt f sec.toNat) = l at *
      cases l with
      | nil => exact absurd rfl hne
      | cons a tl =>
        obtain ⟨⟨⟨c1, c2⟩, c3, c4⟩, _⟩ := cos_ok hd' (hx a (List.mem_cons_self ..))
        have s0 : F_frames_Cosine_s1 n d (0, 0, 0, 0) a = some (.inl ((cosF d a).Num, (cosF d a).Den, (cosF d a).Num, (cosF d a).Den)) := by
          simp [F_frames_Cosine_s1, p_cosine n hd' (hx a (List.mem_cons_self ..))]
        obtain ⟨k1, k2⟩ := foldO_foldl (ρ := Unit) (cs := F_frames_Cosine_s1 n d) (fun (z : Int × Int × Int × Int) x => ((if ltF ⟨z.1, z.2.1⟩ (cosF d x) = true then (cosF d x).Num else z.1), (if ltF ⟨z.1, z.2.1⟩ (cosF d x) = true then (cosF d x).Den else z.2.1), (if ltF (cosF d x) ⟨z.2.2.1, z.2.2.2⟩ = true then (cosF d x).Num else z.2.2.1), (if ltF (cosF d x) ⟨z.2.2.1, z.2.2.2⟩ = true then (cosF d x).Den else z.2.2.2))) (fun i z => FracOk ⟨z.1, z.2.1⟩ ∧ FracOk ⟨z.2.2.1, z.2.2.2⟩) tl 0 ((cosF d a).Num, (cosF d a).Den, (cosF d a).Num, (cosF d a).Den) ⟨⟨⟨c1, c2⟩, c3, c4⟩, ⟨⟨c1, c2⟩, c3, c4⟩⟩ (fun i z x _ hxm hz => by
          have hxo := hx x (List.mem_cons_of_mem _ hxm)
          obtain ⟨⟨b1, b2⟩, b3, b4⟩ := (cos_ok hd' hxo).1
          obtain ⟨z1, z2, z3, z4⟩ := z
          obtain ⟨⟨⟨q1, q2⟩, q3, q4⟩, ⟨w1, w2⟩, w3, w4⟩ := hz
          simp only at q1 q2 q3 q4 w1 w2 w3 w4
          refine ⟨?_, ?_⟩
          · have n2 : (z2 == 0) = false := by simp; omega
            have n4 : (z4 == 0) = false := by simp; omega
            have e5 : decide (cmpF (cosF d x) ⟨z3, z4⟩ < 0) = ltF (cosF d x) ⟨z3, z4⟩ := by
              rw [Bool.eq_iff_iff]; simp only [decide_eq_true_eq, cmp_lt]
            have e6 : decide (0 < cmpF (cosF d x) ⟨z1, z2⟩) = ltF ⟨z1, z2⟩ (cosF d x) := by
              rw [Bool.eq_iff_iff]; simp only [decide_eq_true_eq, cmp_gt]
            simp only [F_frames_Cosine_s1, p_cosine n hd' hxo, Option.bind_some, n2, n4, Bool.false_eq_true, if_false, p_compare n ⟨b3, b4, by omega, b2⟩ (show -40000000 ≤ (Frac.mk z3 z4).Num ∧ (Frac.mk z3 z4).Num ≤ 40000000 ∧ 0 ≤ (Frac.mk z3 z4).Den ∧ (Frac.mk z3 z4).Den ≤ 24000000 by simp only; omega), p_compare n ⟨b3, b4, by omega, b2⟩ (show -40000000 ≤ (Frac.mk z1 z2).Num ∧ (Frac.mk z1 z2).Num ≤ 40000000 ∧ 0 ≤ (Frac.mk z1 z2).Den ∧ (Frac.mk z1 z2).Den ≤ 24000000 by simp only; omega), e5, e6]
            cases ltF (cosF d x) ⟨z3, z4⟩ <;> cases ltF ⟨z1, z2⟩ (cosF d x) <;> rfl
          · constructor
            · simp only
              cases ltF ⟨z1, z2⟩ (cosF d x)
              · exact ⟨⟨q1, q2⟩, q3, q4⟩
              · exact ⟨⟨b1, b2⟩, b3, b4⟩
            · simp only
              cases ltF (cosF d x) ⟨z3, z4⟩
              · exact ⟨⟨w1, w2⟩, w3, w4⟩
              · exact ⟨⟨b1, b2⟩, b3, b4⟩)
        have key : ∀ (tl : List frames_sides) (h l : Frac), tl.foldl (fun (z : Int × Int × Int × Int) x => ((if ltF ⟨z.1, z.2.1⟩ (cosF d x) = true then (cosF d x).Num else z.1), (if ltF ⟨z.1, z.2.1⟩ (cosF d x) = true then (cosF d x).Den else z.2.1), (if ltF (cosF d x) ⟨z.2.2.1, z.2.2.2⟩ = true then (cosF d x).Num else z.2.2.1), (if ltF (cosF d x) ⟨z.2.2.1, z.2.2.2⟩ = true then (cosF d x).Den else z.2.2.2))) (h.Num, h.Den, l.Num, l.Den) =
            ((tl.foldl (fun m x => if ltF m (cosF d x) = true then cosF d x else m) h).Num, (tl.foldl (fun m x => if ltF m (cosF d x) = true then cosF d x else m) h).Den, (tl.foldl (fun m x => if ltF (cosF d x) m = true then cosF d x else m) l).Num, (tl.foldl (fun m x => if ltF (cosF d x) m = true then cosF d x else m) l).Den) := by
          intro tl
          induction tl with
          | nil => intro h l; rfl
          | cons b tl ih =>
            intro h l
            simp only [List.foldl_cons]
            rw [← ih]
            congr 1
            cases ltF h (cosF d b) <;> cases ltF (cosF d b) l <;> rfl
        rw [foldO, s0]
        simp only [Option.bind_some]
        rw [k1, key]
        have hlo := low_ok hd' (a :: tl) hx (by simp)
        have e7 : tl.foldl (fun m x => if ltF m (cosF d x) = true then cosF d x else m) (cosF d a) = highF d (a :: tl) := rfl
        have e8 : tl.foldl (fun m x => if ltF (cosF d x) m = true then cosF d x else m) (cosF d a) = lowF d (a :: tl) := rfl
        rw [e7, e8]
        simp only [Option.bind_some, p_reduced hn hlo.1, p_reduced hn hlo.2]
  · simp [h]
end
end Go.Proofs.YtcipdblhopffbaaGreat
end
section
namespace Go.Proofs.YtcipdblhopffbaaGreat
open Go Go.RowKit Go.Dec
set_option linter.unusedVariables false
def toP (x : frames_sides) : ref01_Pair := ⟨x.arm, x.stretch⟩
def toS (x : ref01_Pair) : frames_sides := ⟨x.Arm, x.Stretch⟩
def pairsL (s : Section) : List ref01_Pair := (sidesL s).map toP
theorem p_within01 (n : Nat) (a b c : Int) : F_ref01_Within n a b c = some (wi a b c) := rfl
section
variable {n : Nat} (hn : 100000000 ≤ n)
include hn
theorem p_Check01 {f : Frame} (hl : f.Sections.length ≤ 1000) : F_ref01_Check n f = some (if okF f = true then 0 else 10) := by
  have h1 := loop_all_l (step := F_ref01_Check_s1 n f) f.Sections okSec (10 : Int) (n := n) (by omega) (fun i x hx hi => by
    simp only [F_ref01_Check_s1, F_ref01_isLong, F_ref01_isShare, geti_nat, hx, Option.bind_some, p_within01, and_br, or_br, lt_nat, hi, decide_true, if_true, w64_nat (show i ≤ 4611686018427387904 by omega)]
    have e : (!(wi x.Arm.Low 1 x.Arm.High && decide (x.Arm.High ≤ 2000) && decide (w64 (x.Arm.High - x.Arm.Low) ≤ 6)) || !(wi x.Stretch.Low 1 x.Stretch.High && decide (x.Stretch.High ≤ 2000) && decide (w64 (x.Stretch.High - x.Stretch.Low) ≤ 6)) || !wi x.Base 0 2000 || !(wi x.Gear.Den 1 20 && wi x.Gear.Num 0 x.Gear.Den)) = !okSec x := by
      simp only [okSec, okSpan, okShare, Bool.not_and, Bool.or_assoc]
    rw [e]
    cases okSec x <;> rfl) (by simp [F_ref01_Check_s1]) (by omega)
  simp only [F_ref01_Check, h1, Option.bind_some]
  cases ha : f.Sections.all okSec with
  | false =>
    have : okF f = false := by simp [okF, ha]
    rw [this]; rfl
  | true =>
    simp only [cond_true, F_ref01_isShare, p_within01, Option.bind_some, and_br, or_br]
    have e : (!wi f.Sections.length 1 3 || !wi f.Low 1 f.High || decide (2000 < f.High) || decide (200 < w64 (f.High - f.Low)) || !(wi f.Ease.Den 1 20 && wi f.Ease.Num 0 f.Ease.Den) || !wi f.Rod 0 4000 || !wi f.Case 0 4000) = !okF f := by
      simp only [okF, okShare, ha, Bool.not_and, Bool.or_assoc, Bool.not_true, Bool.false_or, ← decide_not, Int.not_le]
    rw [e]
    cases okF f <;> rfl
theorem p_Pairs {f : Frame} (hf : FOk f) {i : Nat} (hi : i < f.Sections.length) : F_ref01_Pairs n f i = some (pairsL (secAt f i)) := by
  have hs := hf.s _ (secAt_mem hi)
  have ha := hs.a; have hb := hs.b
  simp only [F_ref01_Pairs, geti_nat, secAt_get hi, Option.bind_some]
  generalize secAt f i = s at *
  have inner : ∀ (a : Int) (out : List ref01_Pair), out.length ≤ 1000 → loopO n (F_ref01_Pairs_s2 n s a) (s.Stretch.Low, out) = some (out ++ (span s.Stretch.Low s.Stretch.High).map fun b => (⟨a, b⟩ : ref01_Pair)) := fun a out ho => by
    have := loop_span_fold (step := F_ref01_Pairs_s2 n s a) (hi := s.Stretch.High) (fun b o => (b, o)) (fun o b => o ++ [(⟨a, b⟩ : ref01_Pair)]) (fun o => o) (fun b o => (o.length : Int) ≤ 1000 + (b - s.Stretch.Low)) _ s.Stretch.Low out n rfl (by omega) (fun b o h1 h2 h3 => by
      refine ⟨?_, by rw [List.length_append, List.length_singleton]; omega⟩
      simp only [F_ref01_Pairs_s2]
      rw [if_pos (by simpa using h2), lim_ok (by rw [List.length_append, List.length_singleton]; omega), w64_id (by omega) (by omega)]
      rfl) (fun b o h1 _ _ => by
      simp only [F_ref01_Pairs_s2]
      rw [if_neg (by simp; omega)]) (by omega)
    rw [this.1, foldl_append_map]
  have := loop_span_fold (step := F_ref01_Pairs_s1 n s) (hi := s.Arm.High) (fun b o => (b, o)) (fun o a => o ++ (span s.Stretch.Low s.Stretch.High).map fun b => (⟨a, b⟩ : ref01_Pair)) (fun o => o) (fun b o => (o.length : Int) ≤ 7 * (b - s.Arm.Low)) _ s.Arm.Low ([] : List ref01_Pair) n rfl (by simp) (fun b o h1 h2 h3 => by
    have h7 := span_len7 hb.2.2.2
    refine ⟨?_, by rw [List.length_append, List.length_map]; omega⟩
    simp only [F_ref01_Pairs_s1]
    rw [if_pos (by simpa using h2), inner b o (by omega), w64_id (by omega) (by omega)]
    rfl) (fun b o h1 _ _ => by
    simp only [F_ref01_Pairs_s1]
    rw [if_neg (by simp; omega)]) (by omega)
  rw [this.1]
  have e : ∀ (l : List Int) (o : List ref01_Pair), l.foldl (fun o a => o ++ (span s.Stretch.Low s.Stretch.High).map fun b => (⟨a, b⟩ : ref01_Pair)) o = o ++ (l.flatMap fun a => (span s.Stretch.Low s.Stretch.High).map fun b => (⟨a, b⟩ : frames_sides)).map toP := by
    intro l
    induction l with
    | nil => intro o; simp
    | cons a l ih =>
      intro o
      rw [List.foldl_cons, ih, List.flatMap_cons, List.map_append, List.map_map]
      simp [toP, Function.comp_def]
  rw [e]
  rfl
theorem p_Reduced {x : Frac} (h : FracOk x) : F_ref01_Reduced n x.Num x.Den = some (red x) := by
  have := p_gcd hn h (F_ref01_Reduced_s1 n) (fun a => by simp [F_ref01_Reduced_s1]) (fun a b hb => by
    have hz : nz b = some () := by unfold nz; rw [if_neg hb]
    simp [F_ref01_Reduced_s1, hb, hz])
  obtain ⟨h1, h2, h3⟩ := red_w h
  simp only [F_ref01_Reduced, this, Option.bind_some, h1, h2, h3]
theorem p_CosineOf {d : Int} (hd : 0 ≤ d ∧ d ≤ 6000) {p : ref01_Pair} (hp : XOk (toS p)) : F_ref01_CosineOf n d p = some (if d = 0 then (⟨0, 0⟩, false) else (red (cosF d (toS p)), true)) := by
  simp only [F_ref01_CosineOf]
  by_cases h0 : d = 0
  · simp [h0]
  · have hd' : 1 ≤ d ∧ d ≤ 6000 := by omega
    have hc := cos_ok hd' hp
    obtain ⟨⟨⟨k1, k2⟩, k3, k4⟩, h1, h2, h3⟩ := hc
    simp only [cosF, toS] at k1 k2 k3 k4 h1 h2 h3
    have h0' : (d == 0) = false := by simpa using h0
    simp only [h0', Bool.false_eq_true, if_false, h0]
    rw [w64_id (n := d * d) (by omega) (by omega), w64_id (n := p.Arm * p.Arm) (by omega) (by omega), w64_id (n := p.Stretch * p.Stretch) (by omega) (by omega), w64_id (n := 2 * d) (by omega) (by omega), w64_id (n := 2 * d * p.Arm) (by omega) (by omega), w64_id (n := d * d + p.Arm * p.Arm) (by omega) (by omega), w64_id (n := d * d + p.Arm * p.Arm - p.Stretch * p.Stretch) (by omega) (by omega)]
    have := p_Reduced hn (cos_ok hd' hp).1
    simp only [cosF, toS] at this
    rw [this]
    rfl
theorem pairs_ok {s : Section} (hs : SecOk s) {p : ref01_Pair} (h : p ∈ pairsL s) : XOk (toS p) := by
  have _hn := hn
  obtain ⟨x, hx, rfl⟩ := List.mem_map.1 h
  exact sides_ok hs hx
theorem pairs_len (s : Section) : (pairsL s).length = (sidesL s).length := by
  have _hn := hn
  simp [pairsL]
end
end Go.Proofs.YtcipdblhopffbaaGreat
end
section
namespace Go.Proofs.YtcipdblhopffbaaGreat
open Go Go.RowKit Go.Dec
set_option linter.unusedVariables false
section
variable {n : Nat} (hn : 100000000 ≤ n)
include hn
theorem p_Copy01 {f : Frame} (hl : f.Sections.length ≤ 1000) : F_ref01_Copy n f = some f := by
  have _hn := hn
  simp only [F_ref01_Copy, List.nil_append]
  rw [lim_ok (by omega)]
  rfl
end
end Go.Proofs.YtcipdblhopffbaaGreat
end
section
namespace Go.Proofs.YtcipdblhopffbaaGreat
open Go Go.RowKit Go.Dec
set_option linter.unusedVariables false
/-- x ≥ y, y ≥ z: x ≥ z -/
theorem ltF_trans {x y z : Frac} (hx : 1 ≤ x.Den) (hy : 1 ≤ y.Den) (hz : 1 ≤ z.Den) (h1 : ltF x y = false) (h2 : ltF y z = false) : ltF x z = false := by
  simp only [ltF, decide_eq_false_iff_not, Int.not_lt] at *
  have a := Int.mul_le_mul_of_nonneg_right h1 (show 0 ≤ z.Den by omega)
  have b := Int.mul_le_mul_of_nonneg_right h2 (show 0 ≤ x.Den by omega)
  have e1 : y.Num * x.Den * z.Den = y.Num * z.Den * x.Den := by rw [Int.mul_assoc, Int.mul_comm x.Den, ← Int.mul_assoc]
  have e2 : z.Num * y.Den * x.Den = z.Num * x.Den * y.Den := by rw [Int.mul_assoc, Int.mul_comm y.Den, ← Int.mul_assoc]
  have e3 : x.Num * y.Den * z.Den = x.Num * z.Den * y.Den := by rw [Int.mul_assoc, Int.mul_comm y.Den, ← Int.mul_assoc]
  rw [e1, e3] at a
  rw [e2] at b
  exact Int.le_of_mul_le_mul_right (Int.le_trans b a) (by omega)
theorem ltF_irrefl (x : Frac) : ltF x x = false := by simp [ltF]
theorem ltF_asymm {x y : Frac} (h : ltF x y = true) : ltF y x = false := by
  simp only [ltF, decide_eq_true_eq, decide_eq_false_iff_not] at *; omega
/-- the least and the greatest cosine -/
theorem low_spec {d : Int} (hd : 1 ≤ d ∧ d ≤ 6000) : ∀ (l : List frames_sides), (∀ x ∈ l, XOk x) → l ≠ [] →
    ((∃ x ∈ l, lowF d l = cosF d x) ∧ ∀ x ∈ l, ltF (cosF d x) (lowF d l) = false) ∧ ((∃ x ∈ l, highF d l = cosF d x) ∧ ∀ x ∈ l, ltF (highF d l) (cosF d x) = false)
  | [], _, h => absurd rfl h
  | a :: l, hx, _ => by
    have key : ∀ (l : List frames_sides) (m m' : frames_sides), (∀ x ∈ l, XOk x) → XOk m → XOk m' →
        ((∃ x ∈ m :: l, l.foldl (fun m x => if ltF (cosF d x) m = true then cosF d x else m) (cosF d m) = cosF d x) ∧ ∀ x ∈ m :: l, ltF (cosF d x) (l.foldl (fun m x => if ltF (cosF d x) m = true then cosF d x else m) (cosF d m)) = false) ∧
        ((∃ x ∈ m' :: l, l.foldl (fun m x => if ltF m (cosF d x) = true then cosF d x else m) (cosF d m') = cosF d x) ∧ ∀ x ∈ m' :: l, ltF (l.foldl (fun m x => if ltF m (cosF d x) = true then cosF d x else m) (cosF d m')) (cosF d x) = false) := by
      intro l
      induction l with
      | nil =>
        intro m m' _ _ _
        refine ⟨⟨⟨m, by simp, rfl⟩, fun x h => ?_⟩, ⟨⟨m', by simp, rfl⟩, fun x h => ?_⟩⟩
        · simp at h; subst h; exact ltF_irrefl _
        · simp at h; subst h; exact ltF_irrefl _
      | cons b l ih =>
        intro m m' hx hm hm'
        have hb := hx b (List.mem_cons_self ..)
        simp only [List.foldl_cons]
        have e1 : (if ltF (cosF d b) (cosF d m) = true then cosF d b else cosF d m) = cosF d (if ltF (cosF d b) (cosF d m) = true then b else m) := by split <;> rfl
        have e2 : (if ltF (cosF d m') (cosF d b) = true then cosF d b else cosF d m') = cosF d (if ltF (cosF d m') (cosF d b) = true then b else m') := by split <;> rfl
        rw [e1, e2]
        obtain ⟨⟨⟨x1, hx1, q1⟩, q2⟩, ⟨x2, hx2, q3⟩, q4⟩ := ih (if ltF (cosF d b) (cosF d m) = true then b else m) (if ltF (cosF d m') (cosF d b) = true then b else m') (fun x h => hx x (List.mem_cons_of_mem _ h)) (by split <;> assumption) (by split <;> assumption)
        have hall : ∀ x ∈ b :: l, XOk x := hx
        refine ⟨⟨⟨x1, ?_, q1⟩, fun x h => ?_⟩, ⟨⟨x2, ?_, q3⟩, fun x h => ?_⟩⟩
        · rcases List.mem_cons.1 hx1 with h | h
          · rw [h]; split <;> simp
          · simp [h]
        · have h0 := q2 _ (List.mem_cons_self ..)
          have hx1' : XOk x1 := by
            rcases List.mem_cons.1 hx1 with h | h
            · rw [h]; split <;> assumption
            · exact hx x1 (List.mem_cons_of_mem _ h)
          by_cases hl : x ∈ l
          · exact q2 x (List.mem_cons_of_mem _ hl)
          · have hxo : XOk x := by
              rcases List.mem_cons.1 h with rfl | h
              · exact hm
              · exact hx x h
            have hmid : XOk (if ltF (cosF d b) (cosF d m) = true then b else m) := by split <;> assumption
            have hstep : ltF (cosF d x) (cosF d (if ltF (cosF d b) (cosF d m) = true then b else m)) = false := by
              rcases List.mem_cons.1 h with rfl | h
              · split
                · rename_i hc; exact ltF_asymm hc
                · exact ltF_irrefl _
              · rcases List.mem_cons.1 h with rfl | h
                · split
                  · exact ltF_irrefl _
                  · rename_i hc; simpa using hc
                · exact absurd h hl
            rw [q1] at h0 ⊢
            exact ltF_trans (cos_ok hd hxo).1.1.1 (cos_ok hd hmid).1.1.1 (cos_ok hd hx1').1.1.1 hstep h0
        · rcases List.mem_cons.1 hx2 with h | h
          · rw [h]; split <;> simp
          · simp [h]
        · have h0 := q4 _ (List.mem_cons_self ..)
          have hx2' : XOk x2 := by
            rcases List.mem_cons.1 hx2 with h | h
            · rw [h]; split <;> assumption
            · exact hx x2 (List.mem_cons_of_mem _ h)
          by_cases hl : x ∈ l
          · exact q4 x (List.mem_cons_of_mem _ hl)
          · have hxo : XOk x := by
              rcases List.mem_cons.1 h with rfl | h
              · exact hm'
              · exact hx x h
            have hmid : XOk (if ltF (cosF d m') (cosF d b) = true then b else m') := by split <;> assumption
            have hstep : ltF (cosF d (if ltF (cosF d m') (cosF d b) = true then b else m')) (cosF d x) = false := by
              rcases List.mem_cons.1 h with rfl | h
              · split
                · rename_i hc; exact ltF_asymm hc
                · exact ltF_irrefl _
              · rcases List.mem_cons.1 h with rfl | h
                · split
                  · exact ltF_irrefl _
                  · rename_i hc; simpa using hc
                · exact absurd h hl
            rw [q3] at h0 ⊢
            exact ltF_trans (cos_ok hd hx2').1.1.1 (cos_ok hd hmid).1.1.1 (cos_ok hd hxo).1.1.1 h0 hstep
    exact key l a a (fun x h => hx x (List.mem_cons_of_mem _ h)) (hx a (List.mem_cons_self ..)) (hx a (List.mem_cons_self ..))
theorem ask_zero {f : Frame} (ho : okF f = true) {sec r : Int} (h : (wi sec 0 ((f.Sections.length : Int) - 1) && wi r f.Low f.High) = true) : askT f sec r = 0 := by
  unfold askT; rw [if_pos ho, if_pos h]
end Go.Proofs.YtcipdblhopffbaaGreat
end
section
namespace Go.Proofs.YtcipdblhopffbaaGreat
open Go Go.RowKit Go.Dec
set_option linter.unusedVariables false
theorem u16_wrap {x : Nat} (h2 : x < 65536) : IntKind.wrap .u16 (x : Int) = x := by
  simp [IntKind.wrap, IntKind.bits, IntKind.signed]; omega
theorem bshr_nat {m i : Nat} (hi : i < 16) : bshr .u16 (m : Int) (i : Int) = ((m / 2 ^ i : Nat) : Int) := by
  unfold bshr
  have h : min (i : Int).toNat (IntKind.bits .u16) = i := by simp [IntKind.bits]; omega
  rw [h, Int.fdiv_eq_ediv_of_nonneg _ (Int.pow_nonneg (by decide))]
  simp
theorem band_nat {a b : Nat} (ha : a < 65536) (hb : b < 65536) : band .u16 (a : Int) (b : Int) = ((a &&& b : Nat) : Int) := by
  unfold band
  have hh : (BitVec.ofInt (IntKind.bits .u16) (a : Int) &&& BitVec.ofInt (IntKind.bits .u16) (b : Int)).toNat = a &&& b := by
    rw [BitVec.toNat_and]
    simp [IntKind.bits, BitVec.ofInt_natCast]
    rw [Nat.mod_eq_of_lt ha, Nat.mod_eq_of_lt hb]
  rw [hh]
  exact u16_wrap (Nat.lt_of_le_of_lt Nat.and_le_left ha)
theorem bor_nat {a b : Nat} (ha : a < 65536) (hb : b < 65536) : bor .u16 (a : Int) (b : Int) = ((a ||| b : Nat) : Int) := by
  unfold bor
  have hh : (BitVec.ofInt (IntKind.bits .u16) (a : Int) ||| BitVec.ofInt (IntKind.bits .u16) (b : Int)).toNat = a ||| b := by
    rw [BitVec.toNat_or]
    simp [IntKind.bits, BitVec.ofInt_natCast]
    rw [Nat.mod_eq_of_lt ha, Nat.mod_eq_of_lt hb]
  rw [hh]
  exact u16_wrap (Nat.or_lt_two_pow (n := 16) ha hb)
theorem bshl_one {i : Nat} (hi : i < 16) : bshl .u16 1 (i : Int) = ((2 ^ i : Nat) : Int) := by
  unfold bshl
  have h : min (i : Int).toNat (IntKind.bits .u16) = i := by simp [IntKind.bits]; omega
  rw [h, Int.one_mul]
  have : (2 : Int) ^ i = ((2 ^ i : Nat) : Int) := by simp
  rw [this]
  exact u16_wrap (Nat.lt_of_lt_of_le (Nat.pow_lt_pow_right (by decide) hi) (by decide))
theorem bit_at {m i : Nat} (hm : m < 65536) (hi : i < 16) : band .u16 (bshr .u16 (m : Int) (i : Int)) 1 = if m.testBit i = true then 1 else 0 := by
  have hd : m / 2 ^ i < 65536 := Nat.lt_of_le_of_lt (Nat.div_le_self _ _) hm
  rw [bshr_nat hi]
  have := band_nat (a := m / 2 ^ i) (b := 1) hd (by decide)
  rw [show ((1 : Nat) : Int) = 1 from rfl] at this
  rw [this, Nat.and_one_is_mod, Nat.testBit_eq_decide_div_mod_eq]
  rcases Nat.mod_two_eq_zero_or_one (m / 2 ^ i) with h | h <;> simp [h]
theorem bit_eq0 {m i : Nat} (hm : m < 65536) (hi : i < 16) : (band .u16 (bshr .u16 (m : Int) (i : Int)) 1 == 0) = !m.testBit i := by
  rw [bit_at hm hi]; cases m.testBit i <;> rfl
theorem bit_eq1 {m i : Nat} (hm : m < 65536) (hi : i < 16) : (band .u16 (bshr .u16 (m : Int) (i : Int)) 1 == 1) = m.testBit i := by
  rw [bit_at hm hi]; cases m.testBit i <;> rfl
def enc (n : Nat) (p : Nat → Bool) : Nat := (List.range n).foldl (fun a i => if p i = true then a ||| 2 ^ i else a) 0
theorem enc_fold (p : Nat → Bool) : ∀ (l : List Nat) (a j : Nat), (l.foldl (fun a i => if p i = true then a ||| 2 ^ i else a) a).testBit j = (a.testBit j || (l.contains j && p j))
  | [], a, j => by simp
  | i :: l, a, j => by
    rw [List.foldl_cons, enc_fold p l]
    by_cases hp : p i = true
    · rw [if_pos hp, Nat.testBit_or, Nat.testBit_two_pow]
      by_cases hij : i = j
      · subst hij; simp [hp]
      · have : (j == i) = false := by simp; exact fun e => hij e.symm
        have h3 : ¬ j = i := fun e => hij e.symm
        simp [hij, h3, List.contains_cons, this]
    · rw [if_neg hp]
      by_cases hij : i = j
      · subst hij; simp [hp]
      · have : (j == i) = false := by simp; exact fun e => hij e.symm
        have h3 : ¬ j = i := fun e => hij e.symm
        simp [h3, List.contains_cons, this]
theorem enc_bit (n : Nat) (p : Nat → Bool) (j : Nat) : (enc n p).testBit j = (decide (j < n) && p j) := by
  unfold enc
  rw [enc_fold]
  simp [List.contains_eq_mem]
theorem enc_lt {n : Nat} (p : Nat → Bool) : enc n p < 2 ^ n := by
  refine Nat.lt_pow_two_of_testBit _ fun i hi => ?_
  rw [enc_bit]; simp; omega
theorem enc_16 {n : Nat} (hn : n ≤ 10) (p : Nat → Bool) : enc n p < 65536 := Nat.lt_of_lt_of_le (enc_lt p) (Nat.le_trans (Nat.pow_le_pow_right (by decide) hn) (by decide))
theorem enc_eq {n m : Nat} {p : Nat → Bool} (h : ∀ j, m.testBit j = (decide (j < n) && p j)) : m = enc n p := Nat.eq_of_testBit_eq fun j => by rw [h, enc_bit]
theorem enc_inj {n : Nat} {p q : Nat → Bool} : enc n p = enc n q ↔ ∀ i, i < n → p i = q i := by
  constructor
  · intro h i hi
    have := congrArg (fun m => m.testBit i) h
    simpa [enc_bit, hi] using this
  · intro h
    exact enc_eq fun j => by
      rw [enc_bit]
      by_cases hj : j < n
      · simp [hj, h j hj]
      · simp [hj]
theorem enc_zero {n : Nat} {p : Nat → Bool} : enc n p = 0 ↔ ∀ i, i < n → p i = false := by
  have h0 : (0 : Nat) = enc n fun _ => false := enc_eq fun j => by simp
  rw [h0, enc_inj]
def path (n rib st : Nat) : List Nat := (List.range' 1 (n - 1)).map fun k => (rib + k * st) % n
def sideS (L : Nat → Int) (p : Nat → Bool) (l : List Nat) : Int := ((l.takeWhile p).map L).foldl (· + ·) 0
def bearsS (L : Nat → Int) (p : Nat → Bool) (n i : Nat) : Int := L i + (sideS L p (path n i 1)).tdiv 2 + (sideS L p (path n i (n - 1))).tdiv 2
def stepS (L S : Nat → Int) (n : Nat) (p : Nat → Bool) : Nat → Bool := fun i => p i || (decide (i < n) && decide (S i < bearsS L p n i))
def G (L S : Nat → Int) (n : Nat) : Nat → Nat → Bool
  | 0 => fun _ => false
  | k + 1 => stepS L S n (G L S n k)
theorem sum_acc (L : Nat → Int) : ∀ (l : List Nat) (a : Int), (l.map L).foldl (· + ·) a = a + (l.map L).foldl (· + ·) 0
  | [], a => by simp
  | x :: l, a => by
    simp only [List.map_cons, List.foldl_cons]
    rw [sum_acc L l (a + L x), sum_acc L l (0 + L x)]; omega
theorem sideS_cons {L : Nat → Int} {p : Nat → Bool} {a : Nat} {l : List Nat} : sideS L p (a :: l) = if p a = true then L a + sideS L p l else 0 := by
  unfold sideS
  by_cases h : p a = true
  · rw [if_pos h, List.takeWhile_cons_of_pos h, List.map_cons, List.foldl_cons, sum_acc]; omega
  · rw [if_neg h, List.takeWhile_cons_of_neg h]; rfl
theorem sideS_nil {L : Nat → Int} {p : Nat → Bool} : sideS L p [] = 0 := rfl
theorem sideS_in {L : Nat → Int} {M : Int} (p : Nat → Bool) : ∀ (l : List Nat), (∀ i ∈ l, 0 ≤ L i ∧ L i ≤ M) → 0 ≤ sideS L p l ∧ sideS L p l ≤ M * l.length
  | [], _ => by simp [sideS_nil]
  | a :: l, h => by
    obtain ⟨h1, h2⟩ := sideS_in p l fun i hi => h i (List.mem_cons_of_mem _ hi)
    obtain ⟨h3, h4⟩ := h a (List.mem_cons_self ..)
    have hM : M * ((a :: l).length : Nat) = M * l.length + M := by
      rw [List.length_cons]; push_cast; rw [Int.mul_add, Int.mul_one]
    have hm : 0 ≤ M * (l.length : Int) := Int.mul_nonneg (by omega) (by omega)
    rw [sideS_cons, hM]
    split <;> omega
theorem path_lt {n rib st : Nat} (hn : 0 < n) {i : Nat} (h : i ∈ path n rib st) : i < n := by
  obtain ⟨k, _, rfl⟩ := List.mem_map.1 h
  exact Nat.mod_lt _ hn
theorem path_len (n rib st : Nat) : (path n rib st).length = n - 1 := by simp [path]
/-- loads are known to be small -/
def LOk (L : Nat → Int) (n : Nat) : Prop := ∀ i, i < n → 0 ≤ L i ∧ L i ≤ 20000
theorem side_in {L : Nat → Int} {n : Nat} (hL : LOk L n) (hn : 0 < n) (hn2 : n ≤ 10) (p : Nat → Bool) (i st : Nat) : 0 ≤ sideS L p (path n i st) ∧ sideS L p (path n i st) ≤ 200000 := by
  obtain ⟨h1, h2⟩ := sideS_in (L := L) (M := 20000) p (path n i st) fun j hj => hL j (path_lt hn hj)
  rw [path_len] at h2
  omega
theorem tdiv2_in {a : Int} (h0 : 0 ≤ a) (h : a ≤ 200000) : 0 ≤ a.tdiv 2 ∧ a.tdiv 2 ≤ 100000 := by
  rw [Int.tdiv_eq_ediv_of_nonneg h0]; omega
theorem G_up {L S : Nat → Int} {n : Nat} (k i : Nat) (h : G L S n k i = true) : G L S n (k + 1) i = true := by
  show stepS L S n (G L S n k) i = true
  simp [stepS, h]
theorem G_le {L S : Nat → Int} {n k m i : Nat} (hkm : k ≤ m) (h : G L S n k i = true) : G L S n m i = true := by
  induction hkm with
  | refl => exact h
  | step _ ih => exact G_up _ _ ih
/-- rounds without a change -/
def fixd (L S : Nat → Int) (n k : Nat) : Prop := ∀ i, i < n → G L S n (k + 1) i = G L S n k i
theorem step_congr {L S : Nat → Int} {n : Nat} (hn : 0 < n) {p q : Nat → Bool} (h : ∀ i, i < n → p i = q i) {i : Nat} (hi : i < n) : stepS L S n p i = stepS L S n q i := by
  have key : ∀ (l : List Nat), (∀ j ∈ l, j < n) → sideS L p l = sideS L q l := by
    intro l
    induction l with
    | nil => intro _; rfl
    | cons a l ih =>
      intro hl
      rw [sideS_cons, sideS_cons, h a (hl a (List.mem_cons_self ..)), ih fun j hj => hl j (List.mem_cons_of_mem _ hj)]
  unfold stepS bearsS
  rw [h i hi, key _ fun j hj => path_lt hn hj, key _ fun j hj => path_lt hn hj]
theorem fixd_up {L S : Nat → Int} {n k : Nat} (hn : 0 < n) (h : fixd L S n k) : fixd L S n (k + 1) := fun i hi => by
  show stepS L S n (G L S n (k + 1)) i = stepS L S n (G L S n k) i
  exact step_congr hn h hi
theorem fixd_le {L S : Nat → Int} {n k m : Nat} (hn : 0 < n) (hkm : k ≤ m) (h : fixd L S n k) : fixd L S n m ∧ ∀ i, i < n → G L S n m i = G L S n k i := by
  induction hkm with
  | refl => exact ⟨h, fun _ _ => rfl⟩
  | step _ ih => exact ⟨fixd_up hn ih.1, fun i hi => by rw [ih.1 i hi]; exact ih.2 i hi⟩
/-- how many stand -/
def left (L S : Nat → Int) (n k : Nat) : Nat := (List.range n).countP fun i => !G L S n k i
theorem left_le (L S : Nat → Int) (n k : Nat) : left L S n k ≤ n := by
  unfold left; exact Nat.le_trans List.countP_le_length (by simp)
theorem countP_lt {α : Type} {p q : α → Bool} : ∀ (l : List α), (∀ x ∈ l, q x = true → p x = true) → (∃ x ∈ l, p x = true ∧ q x = false) → l.countP q < l.countP p
  | [], _, h => by simp at h
  | a :: l, h, ⟨x, hx, h1, h2⟩ => by
    have hm := List.countP_mono_left (l := l) (p := q) (q := p) fun y hy => h y (List.mem_cons_of_mem _ hy)
    rw [List.countP_cons, List.countP_cons]
    rcases List.mem_cons.1 hx with rfl | hx
    · simp [h1, h2]; omega
    · have := countP_lt l (fun y hy => h y (List.mem_cons_of_mem _ hy)) ⟨x, hx, h1, h2⟩
      have ha := h a (List.mem_cons_self ..)
      cases hq : q a
      · simp; split <;> omega
      · simp [ha hq]; omega
theorem left_lt {L S : Nat → Int} {n k : Nat} (h : ¬ fixd L S n k) : left L S n (k + 1) < left L S n k := by
  unfold fixd at h
  have : ∃ i, i < n ∧ G L S n (k + 1) i ≠ G L S n k i := by
    refine Classical.byContradiction fun hc => h fun i hi => ?_
    exact Classical.byContradiction fun hne => hc ⟨i, hi, hne⟩
  obtain ⟨i, hi, hne⟩ := this
  refine countP_lt _ (fun j _ hj => ?_) ⟨i, List.mem_range.2 hi, ?_, ?_⟩
  · cases hg : G L S n k j
    · rfl
    · rw [G_up _ _ hg] at hj; simp at hj
  · cases hg : G L S n k i
    · rfl
    · exact absurd ((G_up _ _ hg).trans hg.symm) hne
  · cases hg : G L S n k i
    · cases hg2 : G L S n (k + 1) i
      · exact absurd (hg2.trans hg.symm) hne
      · rfl
    · exact absurd ((G_up _ _ hg).trans hg.symm) hne
end Go.Proofs.YtcipdblhopffbaaGreat
end
section
namespace Go.Proofs.YtcipdblhopffbaaGreat
open Go Go.RowKit Go.Dec
set_option linter.unusedVariables false
structure BOk (b : gusts_blown) : Prop where
  r : 3 ≤ b.ribs.length ∧ b.ribs.length ≤ 10
  s : b.shares.length = b.ribs.length
  l : 0 ≤ b.lift ∧ b.lift ≤ 200
  sh : ∀ x ∈ b.shares, 0 ≤ x ∧ x ≤ 99
structure GOk (N : Nat) (g : Gust) : Prop where
  f : 0 ≤ g.Force ∧ g.Force ≤ 99
  a : 0 ≤ g.At ∧ g.At < N
def shareS (sh : List Int) (g : Gust) (i : Nat) : Int := (sh[(i + sh.length - g.At.toNat) % sh.length]?).getD 0
def loadS (lift : Int) (sh : List Int) (g : Gust) (i : Nat) : Int := (g.Force * lift * shareS sh g i).tdiv 100
theorem share_get {sh : List Int} {g : Gust} (h0 : 0 < sh.length) (i : Nat) : sh[(i + sh.length - g.At.toNat) % sh.length]? = some (shareS sh g i) := by
  have := Nat.mod_lt (i + sh.length - g.At.toNat) h0
  simp [shareS, this]
theorem share_in {sh : List Int} (hs : ∀ x ∈ sh, 0 ≤ x ∧ x ≤ 99) {g : Gust} (h0 : 0 < sh.length) (i : Nat) : 0 ≤ shareS sh g i ∧ shareS sh g i ≤ 99 := hs _ (List.mem_of_getElem? (share_get h0 i))
theorem prod_in {lift : Int} (hl : 0 ≤ lift ∧ lift ≤ 200) {sh : List Int} (hs : ∀ x ∈ sh, 0 ≤ x ∧ x ≤ 99) {g : Gust} (hf : 0 ≤ g.Force ∧ g.Force ≤ 99) (h0 : 0 < sh.length) (i : Nat) : (0 ≤ g.Force * lift ∧ g.Force * lift ≤ 19800) ∧ (0 ≤ g.Force * lift * shareS sh g i ∧ g.Force * lift * shareS sh g i ≤ 1960200) := by
  have h1 := mul_in hf.1 hf.2 hl.1 hl.2
  have hsh := share_in hs (g := g) h0 i
  have h2 := mul_in (A := 19800) h1.1 (by omega) hsh.1 hsh.2
  exact ⟨⟨h1.1, by omega⟩, h2.1, by omega⟩
theorem load_in {lift : Int} (hl : 0 ≤ lift ∧ lift ≤ 200) {sh : List Int} (hs : ∀ x ∈ sh, 0 ≤ x ∧ x ≤ 99) {g : Gust} (hf : 0 ≤ g.Force ∧ g.Force ≤ 99) (h0 : 0 < sh.length) (i : Nat) : 0 ≤ loadS lift sh g i ∧ loadS lift sh g i ≤ 19602 := by
  have := (prod_in hl hs hf h0 i).2
  unfold loadS
  rw [Int.tdiv_eq_ediv_of_nonneg this.1]
  omega
theorem load_ok {b : gusts_blown} (hb : BOk b) {g : Gust} (hg : GOk b.ribs.length g) : LOk (loadS b.lift b.shares g) b.ribs.length := fun i _ => by
  have := load_in hb.l hb.sh hg.f (by have := hb.s; have := hb.r; omega) i
  omega
theorem tmod_nat (a b : Nat) : (a : Int).tmod (b : Int) = ((a % b : Nat) : Int) := rfl
theorem nz_nat {k : Nat} (h : 0 < k) : nz (k : Int) = some () := by
  unfold nz; rw [if_neg (by omega)]
theorem nneg_nat (k : Nat) : nneg (k : Int) = some () := by
  unfold nneg; rw [if_neg (by omega)]
section
variable {n : Nat} (hn : 100000000 ≤ n)
include hn
theorem p_load {b : gusts_blown} (hb : BOk b) {g : Gust} (hg : GOk b.ribs.length g) {i : Nat} (hi : i < b.ribs.length) : F_gusts_blown_load n b g (i : Int) = some (loadS b.lift b.shares g i) := by
  have _hn := hn
  have h1 := hb.r; have h2 := hb.s; have h3 := hg.a
  have h0 : 0 < b.shares.length := by omega
  have e : w64 (w64 ((i : Int) - g.At) + (b.shares.length : Int)) = ((i + b.shares.length - g.At.toNat : Nat) : Int) := by
    rw [w64_id (n := (i : Int) - g.At) (by omega) (by omega), w64_id (by omega) (by omega)]; omega
  obtain ⟨⟨p1, p2⟩, p3, p4⟩ := prod_in hb.l hb.sh hg.f h0 i
  have hd : 0 ≤ loadS b.lift b.shares g i ∧ loadS b.lift b.shares g i ≤ 19602 := load_in hb.l hb.sh hg.f h0 i
  simp only [F_gusts_blown_load, nz_nat h0, Option.bind_some, e, tmod_nat, geti_nat, share_get h0]
  rw [w64_id (n := g.Force * b.lift) (by omega) (by omega), w64_id (n := g.Force * b.lift * _) (by omega) (by omega)]
  show some (w64 (loadS b.lift b.shares g i)) = _
  rw [w64_id (by omega) (by omega)]
theorem walk_side {b : gusts_blown} (hb : BOk b) {g : Gust} (hg : GOk b.ribs.length g) (p : Nat → Bool) {i : Nat} (hi : i < b.ribs.length) {st : Nat} (hst : st < b.ribs.length) (hback : (i + b.ribs.length * st) % b.ribs.length = i) (hne : ∀ k, 1 ≤ k → k < b.ribs.length → (i + k * st) % b.ribs.length ≠ i) :
    ∀ (m k : Nat) (a : Int) (f : Nat), k + m = b.ribs.length → 1 ≤ k → 0 ≤ a → a ≤ 20000 * k → m < f →
      loopO f (F_gusts_blown_bears_s2 n b g i (enc b.ribs.length p) st) (a, (((i + k * st) % b.ribs.length : Nat) : Int)) = some (a + sideS (loadS b.lift b.shares g) p ((List.range' k m).map fun k => (i + k * st) % b.ribs.length)) := by
  have hr := hb.r
  have hL := load_ok hb hg
  intro m
  induction m with
  | zero =>
    intro k a f hk h1 h2 h3 hf
    have : k = b.ribs.length := by omega
    subst this
    rw [hback]
    refine loop_done ?_ hf
    simp [F_gusts_blown_bears_s2, sideS_nil]
  | succ m ih =>
    intro k a f hk h1 h2 h3 hf
    obtain ⟨f', rfl⟩ : ∃ z, f = z + 1 := ⟨f - 1, by omega⟩
    have hlt : (i + k * st) % b.ribs.length < b.ribs.length := Nat.mod_lt _ (by omega)
    have hne' := hne k h1 (by omega)
    have hneI : ((((i + k * st) % b.ribs.length : Nat) : Int) != (i : Int)) = true := by
      simp only [bne_iff_ne, ne_eq]; intro e; exact hne' (by exact_mod_cast e)
    have hbit := bit_eq1 (m := enc b.ribs.length p) (i := (i + k * st) % b.ribs.length) (enc_16 hr.2 p) (by omega)
    rw [enc_bit] at hbit
    simp only [hlt, decide_true, Bool.true_and] at hbit
    rw [List.range'_succ, List.map_cons, sideS_cons]
    have hl := hL _ hlt
    rw [loopO_succ]
    simp only [F_gusts_blown_bears_s2, hneI, if_true, nneg_nat, Option.bind_some, hbit]
    by_cases hp : p ((i + k * st) % b.ribs.length) = true
    · simp only [hp, if_true, p_load hn hb hg hlt, Option.bind_some, nz_nat (show 0 < b.ribs.length by omega)]
      have e : (w64 ((((i + k * st) % b.ribs.length : Nat) : Int) + (st : Int))).tmod (b.ribs.length : Int) = (((i + (k + 1) * st) % b.ribs.length : Nat) : Int) := by
        rw [w64_id (by omega) (by omega)]
        have : (((i + k * st) % b.ribs.length : Nat) : Int) + (st : Int) = (((i + k * st) % b.ribs.length + st : Nat) : Int) := by omega
        rw [this, tmod_nat, Nat.mod_add_mod, Nat.add_mul, Nat.one_mul, Nat.add_assoc]
      have ha : w64 (a + loadS b.lift b.shares g ((i + k * st) % b.ribs.length)) = a + loadS b.lift b.shares g ((i + k * st) % b.ribs.length) := w64_id (by omega) (by omega)
      rw [e, ha, ih (k + 1) _ f' (by omega) (by omega) (by omega) (by push_cast; omega) (by omega)]
      simp only [Option.some.injEq]
      omega
    · simp only [Bool.not_eq_true] at hp
      simp only [hp, Bool.false_eq_true, if_false, Int.add_zero]
theorem p_side {b : gusts_blown} (hb : BOk b) {g : Gust} (hg : GOk b.ribs.length g) (p : Nat → Bool) {i : Nat} (hi : i < b.ribs.length) {st : Nat} (hst : st < b.ribs.length) (hback : (i + b.ribs.length * st) % b.ribs.length = i) (hne : ∀ k, 1 ≤ k → k < b.ribs.length → (i + k * st) % b.ribs.length ≠ i) :
    loopO n (F_gusts_blown_bears_s2 n b g i (enc b.ribs.length p) st) (0, (w64 ((i : Int) + st)).tmod (b.ribs.length : Int)) = some (sideS (loadS b.lift b.shares g) p (path b.ribs.length i st)) := by
  have hr := hb.r
  have e : (w64 ((i : Int) + st)).tmod (b.ribs.length : Int) = (((i + 1 * st) % b.ribs.length : Nat) : Int) := by
    rw [w64_id (by omega) (by omega)]
    have : (i : Int) + (st : Int) = ((i + st : Nat) : Int) := by omega
    rw [this, tmod_nat, Nat.one_mul]
  rw [e, walk_side hn hb hg p hi hst hback hne (b.ribs.length - 1) 1 0 n (by omega) (by omega) (by omega) (by omega) (by omega)]
  simp [path]
omit hn in
theorem step1 {N i : Nat} (hi : i < N) : (i + N * 1) % N = i ∧ ∀ k, 1 ≤ k → k < N → (i + k * 1) % N ≠ i := by
  refine ⟨by rw [Nat.mul_one, Nat.add_mod_right, Nat.mod_eq_of_lt hi], fun k h1 h2 e => ?_⟩
  rw [Nat.mul_one] at e
  by_cases h : i + k < N
  · rw [Nat.mod_eq_of_lt h] at e; omega
  · rw [Nat.mod_eq_sub_mod (by omega), Nat.mod_eq_of_lt (by omega)] at e; omega
omit hn in
theorem back_mod {N i k : Nat} (hi : i < N) (hk : k ≤ N) : (i + k * (N - 1)) % N = (i + N - k) % N := by
  obtain ⟨M, rfl⟩ : ∃ M, N = M + 1 := ⟨N - 1, by omega⟩
  rw [Nat.add_sub_cancel]
  have : i + k * M + k = (i + (M + 1) - k) + k + (k - 1) * (M + 1) + (if k = 0 then 0 else 0) ∨ k = 0 := by
    cases k with
    | zero => exact .inr rfl
    | succ k =>
      left
      simp only [Nat.add_sub_cancel, ite_self, Nat.add_zero]
      have e1 : (k + 1) * M = k * M + M := by rw [Nat.add_mul, Nat.one_mul]
      have e2 : k * (M + 1) = k * M + k := by rw [Nat.mul_add, Nat.mul_one]
      omega
  rcases this with h | rfl
  · simp only [ite_self, Nat.add_zero] at h
    have h' : i + k * M = (i + (M + 1) - k) + (k - 1) * (M + 1) := by omega
    rw [h', Nat.add_mul_mod_self_right]
  · simp
omit hn in
theorem stepB {N i : Nat} (hi : i < N) : (i + N * (N - 1)) % N = i ∧ ∀ k, 1 ≤ k → k < N → (i + k * (N - 1)) % N ≠ i := by
  refine ⟨by rw [Nat.add_mul_mod_self_left, Nat.mod_eq_of_lt hi], fun k h1 h2 e => ?_⟩
  rw [back_mod hi (by omega)] at e
  by_cases h : i + N - k < N
  · rw [Nat.mod_eq_of_lt h] at e; omega
  · rw [Nat.mod_eq_sub_mod (by omega), Nat.mod_eq_of_lt (by omega)] at e; omega
theorem p_bears {b : gusts_blown} (hb : BOk b) {g : Gust} (hg : GOk b.ribs.length g) (p : Nat → Bool) {i : Nat} (hi : i < b.ribs.length) : F_gusts_blown_bears n b g i (enc b.ribs.length p) = some (bearsS (loadS b.lift b.shares g) p b.ribs.length i) := by
  have hr := hb.r
  have hL := load_ok hb hg
  have a1 := side_in hL (by omega) hr.2 p i 1
  have a2 := side_in hL (by omega) hr.2 p i (b.ribs.length - 1)
  have t1 := tdiv2_in a1.1 a1.2
  have t2 := tdiv2_in a2.1 a2.2
  have hl := hL i hi
  have s1 := p_side hn hb hg p hi (st := 1) (by omega) (step1 hi).1 (step1 hi).2
  have s2 := p_side hn hb hg p hi (st := b.ribs.length - 1) (by omega) (stepB hi).1 (stepB hi).2
  have c2 : w64 ((b.ribs.length : Int) - 1) = ((b.ribs.length - 1 : Nat) : Int) := by rw [w64_id (by omega) (by omega)]; omega
  have hnz := nz_nat (show 0 < b.ribs.length by omega)
  obtain ⟨m, rfl⟩ : ∃ m, n = m + 3 := ⟨n - 3, by omega⟩
  unfold F_gusts_blown_bears
  rw [p_load hn hb hg hi]
  simp only [Option.bind_some]
  have w1 : w64 ((0 : Int) + 1) = 1 := by decide
  have w2 : w64 ((1 : Int) + 1) = 2 := by decide
  have g0 : geti [1, w64 ((b.ribs.length : Int) - 1)] 0 = some ((1 : Nat) : Int) := rfl
  have g1 : geti [1, w64 ((b.ribs.length : Int) - 1)] 1 = some ((b.ribs.length - 1 : Nat) : Int) := by rw [c2]; rfl
  have st0 : F_gusts_blown_bears_s1 (m + 3) b g i (enc b.ribs.length p) (loadS b.lift b.shares g i, 0) = some (.inl (loadS b.lift b.shares g i + (sideS (loadS b.lift b.shares g) p (path b.ribs.length i 1)).tdiv 2, 1)) := by
    simp only [F_gusts_blown_bears_s1, show decide ((0 : Int) < 2) = true from rfl, if_true, g0, Option.bind_some, hnz, s1, w1]
    rw [w64_id (n := (sideS _ _ _).tdiv 2) (by omega) (by omega), w64_id (by omega) (by omega)]
  have st1 : F_gusts_blown_bears_s1 (m + 3) b g i (enc b.ribs.length p) (loadS b.lift b.shares g i + (sideS (loadS b.lift b.shares g) p (path b.ribs.length i 1)).tdiv 2, 1) = some (.inl (bearsS (loadS b.lift b.shares g) p b.ribs.length i, 2)) := by
    simp only [F_gusts_blown_bears_s1, show decide ((1 : Int) < 2) = true from rfl, if_true, g1, Option.bind_some, hnz, s2, w2]
    rw [w64_id (n := (sideS _ _ _).tdiv 2) (by omega) (by omega), w64_id (by omega) (by omega)]
    rfl
  have st2 : F_gusts_blown_bears_s1 (m + 3) b g i (enc b.ribs.length p) (bearsS (loadS b.lift b.shares g) p b.ribs.length i, 2) = some (.inr (bearsS (loadS b.lift b.shares g) p b.ribs.length i)) := by
    simp [F_gusts_blown_bears_s1]
  rw [loopO_succ, st0]
  simp only
  rw [loopO_succ, st1]
  simp only
  rw [loopO_succ, st2]
  rfl
def ribS (b : gusts_blown) (i : Nat) : Int := (b.ribs[i]?).getD 0
theorem p_round {b : gusts_blown} (hb : BOk b) {g : Gust} (hg : GOk b.ribs.length g) (p : Nat → Bool) :
    loopO n (I_gusts_blown_rounds_1_s2 n b g (enc b.ribs.length p)) ((enc b.ribs.length p : Nat), 0) = some ((enc b.ribs.length (stepS (loadS b.lift b.shares g) (ribS b) b.ribs.length p) : Nat) : Int) := by
  have hr := hb.r
  have kk := loop_fold (step := I_gusts_blown_rounds_1_s2 n b g (enc b.ribs.length p)) (List.range b.ribs.length) (fun i (z : Nat) => ((z : Int), (i : Int))) (fun z i => if (!p i && decide (ribS b i < bearsS (loadS b.lift b.shares g) p b.ribs.length i)) = true then z ||| 2 ^ i else z) (fun z => (z : Int)) (fun i z => z < 65536) (n := n) (enc b.ribs.length p) (enc_16 hr.2 p) (fun i x z hx hz => ?_) (fun z hz => ?_) (by simp; omega)
  · obtain ⟨k1, k2⟩ := kk
    rw [show ((0 : Nat) : Int) = 0 from rfl] at k1
    rw [k1]
    simp only [Option.some.injEq, Int.natCast_inj]
    refine enc_eq fun j => ?_
    rw [enc_fold (fun i => !p i && decide (ribS b i < bearsS (loadS b.lift b.shares g) p b.ribs.length i)), enc_bit]
    by_cases hj : j < b.ribs.length
    · simp only [List.contains_eq_mem, List.mem_range, hj, decide_true, Bool.true_and, stepS]
      cases p j <;> simp
    · simp [hj]
  · obtain ⟨hi, hxi⟩ := List.getElem?_eq_some_iff.1 hx
    simp at hi hxi
    subst hxi
    have h2i : 2 ^ i < 65536 := Nat.lt_of_lt_of_le (Nat.pow_lt_pow_right (by decide) (show i < 16 by omega)) (by decide)
    have hrib : b.ribs[i]? = some (ribS b i) := by simp [ribS, hi]
    have hbit := bit_eq0 (m := enc b.ribs.length p) (i := i) (enc_16 hr.2 p) (by omega)
    rw [enc_bit] at hbit
    simp only [hi, decide_true, Bool.true_and] at hbit
    refine ⟨?_, ?_⟩
    · simp only [I_gusts_blown_rounds_1_s2, lt_nat, hi, decide_true, if_true, geti_nat, hrib, Option.bind_some, nneg_nat, hbit, p_bears hn hb hg p hi, w64_nat (show i ≤ 4611686018427387904 by omega)]
      cases hp : p i
      · simp only [Bool.not_false, if_true, Option.bind_some, Bool.true_and, decide_eq_true_eq]
        by_cases hc : ribS b i < bearsS (loadS b.lift b.shares g) p b.ribs.length i
        · simp only [hc, if_true, decide_true, bshl_one (show i < 16 by omega), bor_nat hz h2i, Option.bind_some]
        · simp only [hc, if_false, Bool.false_eq_true, decide_false, Option.bind_some]
      · simp only [Bool.not_true, Bool.false_eq_true, if_false, Option.bind_some, Bool.false_and]
    · split
      · exact Nat.or_lt_two_pow (n := 16) hz h2i
      · exact hz
  · simp only [List.length_range, I_gusts_blown_rounds_1_s2]
    simp
/-- the rounds that are yielded: from round k on, as long as more go -/
def roundsL (L S : Nat → Int) (N : Nat) : Nat → Nat → List Int
  | 0, _ => []
  | m + 1, k => if enc N (G L S N (k + 1)) = enc N (G L S N k) then [] else (enc N (G L S N (k + 1)) : Int) :: roundsL L S N m (k + 1)
theorem p_rounds {b : gusts_blown} (hb : BOk b) {g : Gust} (hg : GOk b.ribs.length g) {σ ρ : Type} (cs : σ → Int → Option (σ ⊕ ρ)) (s : σ) : I_gusts_blown_rounds_1 n b g cs s = foldO cs s (roundsL (loadS b.lift b.shares g) (ribS b) b.ribs.length (b.ribs.length + 1) 0) := by
  have hr := hb.r
  have key : ∀ (m k : Nat) (s : σ) (f : Nat), left (loadS b.lift b.shares g) (ribS b) b.ribs.length k < m → m < f →
      loopO f (I_gusts_blown_rounds_1_s1 n b g cs) (((enc b.ribs.length (G (loadS b.lift b.shares g) (ribS b) b.ribs.length k) : Nat) : Int), s) = foldO cs s (roundsL (loadS b.lift b.shares g) (ribS b) b.ribs.length m k) := by
    intro m
    induction m with
    | zero => intro k s f h; omega
    | succ m ih =>
      intro k s f hk hf
      obtain ⟨f', rfl⟩ : ∃ z, f = z + 1 := ⟨f - 1, by omega⟩
      rw [loopO_succ, roundsL]
      simp only [I_gusts_blown_rounds_1_s1, p_round hn hb hg, Option.bind_some]
      rw [show stepS (loadS b.lift b.shares g) (ribS b) b.ribs.length (G (loadS b.lift b.shares g) (ribS b) b.ribs.length k) = G (loadS b.lift b.shares g) (ribS b) b.ribs.length (k + 1) from rfl]
      by_cases he : enc b.ribs.length (G (loadS b.lift b.shares g) (ribS b) b.ribs.length (k + 1)) = enc b.ribs.length (G (loadS b.lift b.shares g) (ribS b) b.ribs.length k)
      · simp [he, foldO]
      · have he' : (((enc b.ribs.length (G (loadS b.lift b.shares g) (ribS b) b.ribs.length (k + 1)) : Nat) : Int) == ((enc b.ribs.length (G (loadS b.lift b.shares g) (ribS b) b.ribs.length k) : Nat) : Int)) = false := by
          simp only [beq_eq_false_iff_ne, ne_eq, Int.natCast_inj]; exact he
        have hnf : ¬ fixd (loadS b.lift b.shares g) (ribS b) b.ribs.length k := fun h => he (enc_inj.2 h)
        have hl := left_lt hnf
        simp only [he', Bool.false_eq_true, if_false, he, foldO]
        cases hc : cs s ((enc b.ribs.length (G (loadS b.lift b.shares g) (ribS b) b.ribs.length (k + 1)) : Nat) : Int) with
        | none => simp
        | some y =>
          cases y with
          | inl s' => simp only [Option.bind_some]; exact ih (k + 1) s' f' (by omega) (by omega)
          | inr r => simp
  have h0 : enc b.ribs.length (G (loadS b.lift b.shares g) (ribS b) b.ribs.length 0) = 0 := enc_zero.2 fun _ _ => rfl
  have := key (b.ribs.length + 1) 0 s n (by have := left_le (loadS b.lift b.shares g) (ribS b) b.ribs.length 0; omega) (by omega)
  rw [h0] at this
  exact this
theorem p_first {b : gusts_blown} (hb : BOk b) {g : Gust} (hg : GOk b.ribs.length g) : F_gusts_blown_first n b g = some ((enc b.ribs.length (G (loadS b.lift b.shares g) (ribS b) b.ribs.length 1) : Nat) : Int) := by
  have h0 : enc b.ribs.length (G (loadS b.lift b.shares g) (ribS b) b.ribs.length 0) = 0 := enc_zero.2 fun _ _ => rfl
  simp only [F_gusts_blown_first, F_gusts_blown_rounds, Option.bind_some, p_rounds hn hb hg, roundsL, h0, Nat.zero_add]
  by_cases he : enc b.ribs.length (G (loadS b.lift b.shares g) (ribS b) b.ribs.length 1) = 0
  · simp [he, foldO]
  · simp [he, foldO, F_gusts_blown_first_s1]
/-- a set's numbers -/
def listS (N : Nat) (p : Nat → Bool) : List Int := ((List.range N).filter p).map fun i : Nat => (i : Int)
end
end Go.Proofs.YtcipdblhopffbaaGreat
end
section
namespace Go.Proofs.YtcipdblhopffbaaGreat
open Go Go.RowKit Go.Dec
set_option linter.unusedVariables false
section
variable {n : Nat} (hn : 100000000 ≤ n)
include hn
theorem p_ContainsSpan (s : List Span) (f : Span → Option Bool) (p : Span → Bool) (hf : ∀ x, x ∈ s → f x = some (p x)) (hs : s.length ≤ 1000) : F_slices_ContainsFunc___api_Span_api_Span_ n s f = some (s.any p) := by
  have : ∃ k, F_slices_IndexFunc___api_Span_api_Span_ n s f = some k ∧ decide (0 ≤ k) = s.any p := by
    by_cases h : s.any p = true
    · have : ∃ i : Nat, ∃ x, s[i]? = some x ∧ p x = true ∧ ∀ (j : Nat) y, j < i → s[j]? = some y → p y = false := first_of h
      obtain ⟨i, x, h1, h2, h3⟩ := this
      have hil := (List.getElem?_eq_some_iff.1 h1).1
      refine ⟨i, ?_, by rw [h]; simp⟩
      have := loop_run (step := F_slices_IndexFunc___api_Span_api_Span__s1 n s f) (fun j => (j : Int)) (r := .inl (i : Int)) i 0 n (fun j _ hj => ?_) ?_ (by omega)
      · unfold F_slices_IndexFunc___api_Span_api_Span_
        simp only [Int.natCast_zero] at this
        rw [this]; rfl
      · have hj' : j < s.length := by omega
        have e : s[j]? = some s[j] := List.getElem?_eq_getElem hj'
        simp only [F_slices_IndexFunc___api_Span_api_Span__s1, geti_nat, e, Option.bind_some, hf _ (List.getElem_mem hj'), h3 j _ (by omega) e, lt_nat, hj', decide_true, if_true, Bool.false_eq_true, if_false, w64_nat (show j ≤ 4611686018427387904 by omega)]
      · simp only [Nat.zero_add, F_slices_IndexFunc___api_Span_api_Span__s1, geti_nat, h1, Option.bind_some, hf _ (List.mem_of_getElem? h1), h2, lt_nat, hil, decide_true, if_true]
    · have hno : ∀ x ∈ s, p x = false := fun x hx => by
        cases hp : p x with
        | false => rfl
        | true => exact absurd (List.any_eq_true.2 ⟨x, hx, hp⟩) h
      refine ⟨-1, ?_, by simp only [Bool.not_eq_true] at h; rw [h]; rfl⟩
      have := loop_all_l (step := F_slices_IndexFunc___api_Span_api_Span__s1 n s f) s (fun _ => true) (0 : Int) (n := n) (by omega) (fun i x hx hi => ?_) ?_ (by omega)
      · unfold F_slices_IndexFunc___api_Span_api_Span_; rw [this, show (s.all fun _ => true) = true by simp]; rfl
      · simp only [F_slices_IndexFunc___api_Span_api_Span__s1, geti_nat, hx, Option.bind_some, hf _ (List.mem_of_getElem? hx), hno _ (List.mem_of_getElem? hx), lt_nat, hi, decide_true, if_true, cond_true, Bool.false_eq_true, if_false, w64_nat (show i ≤ 4611686018427387904 by omega)]
      · simp [F_slices_IndexFunc___api_Span_api_Span__s1]
  obtain ⟨k, h1, h2⟩ := this
  simp only [F_slices_ContainsFunc___api_Span_api_Span_, h1, Option.bind_some, h2]
theorem p_ContainsInt (s : List Int) (f : Int → Option Bool) (p : Int → Bool) (hf : ∀ x, x ∈ s → f x = some (p x)) (hs : s.length ≤ 1000) : F_slices_ContainsFunc___int_int_ n s f = some (s.any p) := by
  have : ∃ k, F_slices_IndexFunc___int_int_ n s f = some k ∧ decide (0 ≤ k) = s.any p := by
    by_cases h : s.any p = true
    · have : ∃ i : Nat, ∃ x, s[i]? = some x ∧ p x = true ∧ ∀ (j : Nat) y, j < i → s[j]? = some y → p y = false := first_of h
      obtain ⟨i, x, h1, h2, h3⟩ := this
      have hil := (List.getElem?_eq_some_iff.1 h1).1
      refine ⟨i, ?_, by rw [h]; simp⟩
      have := loop_run (step := F_slices_IndexFunc___int_int__s1 n s f) (fun j => (j : Int)) (r := .inl (i : Int)) i 0 n (fun j _ hj => ?_) ?_ (by omega)
      · unfold F_slices_IndexFunc___int_int_
        simp only [Int.natCast_zero] at this
        rw [this]; rfl
      · have hj' : j < s.length := by omega
        have e : s[j]? = some s[j] := List.getElem?_eq_getElem hj'
        simp only [F_slices_IndexFunc___int_int__s1, geti_nat, e, Option.bind_some, hf _ (List.getElem_mem hj'), h3 j _ (by omega) e, lt_nat, hj', decide_true, if_true, Bool.false_eq_true, if_false, w64_nat (show j ≤ 4611686018427387904 by omega)]
      · simp only [Nat.zero_add, F_slices_IndexFunc___int_int__s1, geti_nat, h1, Option.bind_some, hf _ (List.mem_of_getElem? h1), h2, lt_nat, hil, decide_true, if_true]
    · have hno : ∀ x ∈ s, p x = false := fun x hx => by
        cases hp : p x with
        | false => rfl
        | true => exact absurd (List.any_eq_true.2 ⟨x, hx, hp⟩) h
      refine ⟨-1, ?_, by simp only [Bool.not_eq_true] at h; rw [h]; rfl⟩
      have := loop_all_l (step := F_slices_IndexFunc___int_int__s1 n s f) s (fun _ => true) (0 : Int) (n := n) (by omega) (fun i x hx hi => ?_) ?_ (by omega)
      · unfold F_slices_IndexFunc___int_int_; rw [this, show (s.all fun _ => true) = true by simp]; rfl
      · simp only [F_slices_IndexFunc___int_int__s1, geti_nat, hx, Option.bind_some, hf _ (List.mem_of_getElem? hx), hno _ (List.mem_of_getElem? hx), lt_nat, hi, decide_true, if_true, cond_true, Bool.false_eq_true, if_false, w64_nat (show i ≤ 4611686018427387904 by omega)]
      · simp [F_slices_IndexFunc___int_int__s1]
  obtain ⟨k, h1, h2⟩ := this
  simp only [F_slices_ContainsFunc___int_int_, h1, Option.bind_some, h2]
theorem p_ContainsGust (s : List Gust) (f : Gust → Option Bool) (p : Gust → Bool) (hf : ∀ x, x ∈ s → f x = some (p x)) (hs : s.length ≤ 1000) : F_slices_ContainsFunc___api_Gust_api_Gust_ n s f = some (s.any p) := by
  have : ∃ k, F_slices_IndexFunc___api_Gust_api_Gust_ n s f = some k ∧ decide (0 ≤ k) = s.any p := by
    by_cases h : s.any p = true
    · have : ∃ i : Nat, ∃ x, s[i]? = some x ∧ p x = true ∧ ∀ (j : Nat) y, j < i → s[j]? = some y → p y = false := first_of h
      obtain ⟨i, x, h1, h2, h3⟩ := this
      have hil := (List.getElem?_eq_some_iff.1 h1).1
      refine ⟨i, ?_, by rw [h]; simp⟩
      have := loop_run (step := F_slices_IndexFunc___api_Gust_api_Gust__s1 n s f) (fun j => (j : Int)) (r := .inl (i : Int)) i 0 n (fun j _ hj => ?_) ?_ (by omega)
      · unfold F_slices_IndexFunc___api_Gust_api_Gust_
        simp only [Int.natCast_zero] at this
        rw [this]; rfl
      · have hj' : j < s.length := by omega
        have e : s[j]? = some s[j] := List.getElem?_eq_getElem hj'
        simp only [F_slices_IndexFunc___api_Gust_api_Gust__s1, geti_nat, e, Option.bind_some, hf _ (List.getElem_mem hj'), h3 j _ (by omega) e, lt_nat, hj', decide_true, if_true, Bool.false_eq_true, if_false, w64_nat (show j ≤ 4611686018427387904 by omega)]
      · simp only [Nat.zero_add, F_slices_IndexFunc___api_Gust_api_Gust__s1, geti_nat, h1, Option.bind_some, hf _ (List.mem_of_getElem? h1), h2, lt_nat, hil, decide_true, if_true]
    · have hno : ∀ x ∈ s, p x = false := fun x hx => by
        cases hp : p x with
        | false => rfl
        | true => exact absurd (List.any_eq_true.2 ⟨x, hx, hp⟩) h
      refine ⟨-1, ?_, by simp only [Bool.not_eq_true] at h; rw [h]; rfl⟩
      have := loop_all_l (step := F_slices_IndexFunc___api_Gust_api_Gust__s1 n s f) s (fun _ => true) (0 : Int) (n := n) (by omega) (fun i x hx hi => ?_) ?_ (by omega)
      · unfold F_slices_IndexFunc___api_Gust_api_Gust_; rw [this, show (s.all fun _ => true) = true by simp]; rfl
      · simp only [F_slices_IndexFunc___api_Gust_api_Gust__s1, geti_nat, hx, Option.bind_some, hf _ (List.mem_of_getElem? hx), hno _ (List.mem_of_getElem? hx), lt_nat, hi, decide_true, if_true, cond_true, Bool.false_eq_true, if_false, w64_nat (show i ≤ 4611686018427387904 by omega)]
      · simp [F_slices_IndexFunc___api_Gust_api_Gust__s1]
  obtain ⟨k, h1, h2⟩ := this
  simp only [F_slices_ContainsFunc___api_Gust_api_Gust_, h1, Option.bind_some, h2]
end
def okRib (s : Span) : Bool := wi s.Low 0 s.High && decide (s.High ≤ 99999)
def okSh (x : Int) : Bool := wi x 0 99
def okD (d : Canopy) : Bool := okF d.Frame && wi d.Ribs.length 3 10 && ((d.Shares.length : Int) == (d.Ribs.length : Int)) && d.Ribs.all okRib && d.Shares.all okSh
def okGust (d : Canopy) (g : Gust) : Bool := wi g.Force 0 99 && wi g.At 0 ((d.Ribs.length : Int) - 1)
structure DOk (d : Canopy) : Prop where
  f : FOk d.Frame
  r : 3 ≤ d.Ribs.length ∧ d.Ribs.length ≤ 10
  s : d.Shares.length = d.Ribs.length
  ribs : ∀ s ∈ d.Ribs, 0 ≤ s.Low ∧ s.Low ≤ s.High ∧ s.High ≤ 99999
  sh : ∀ x ∈ d.Shares, 0 ≤ x ∧ x ≤ 99
theorem okD_iff {d : Canopy} : okD d = true ↔ DOk d := by
  simp only [okD, Bool.and_eq_true, okF_iff, wi_t, beq_iff_eq, List.all_eq_true, okRib, okSh, decide_eq_true_eq]
  constructor
  · rintro ⟨⟨⟨⟨h1, h2⟩, h3⟩, h4⟩, h5⟩
    exact ⟨h1, by omega, by omega, fun s hs => by have := h4 s hs; omega, h5⟩
  · rintro ⟨h1, h2, h3, h4, h5⟩
    exact ⟨⟨⟨⟨h1, by omega⟩, by omega⟩, fun s hs => by have := h4 s hs; omega⟩, h5⟩
def Small (d : Canopy) : Prop := d.Frame.Sections.length ≤ 1000 ∧ d.Ribs.length ≤ 1000 ∧ d.Shares.length ≤ 1000
theorem DOk.small {d : Canopy} (h : DOk d) : Small d := by
  have := h.r; have := h.s; have := h.f.n
  exact ⟨by omega, by omega, by omega⟩
def askG (d : Canopy) (l : List Gust) : Int := if okD d = true then (if (decide (l.length ≤ 20) && l.all (okGust d)) = true then 0 else 1) else 50
theorem okGust_iff {d : Canopy} {g : Gust} : okGust d g = true ↔ GOk d.Ribs.length g := by
  simp only [okGust, Bool.and_eq_true, wi_t]
  constructor
  · rintro ⟨h1, h2⟩; exact ⟨h1, by omega⟩
  · rintro ⟨h1, h2⟩; exact ⟨h1, by omega⟩
theorem askG_ok {d : Canopy} {l : List Gust} : askG d l = 0 ↔ DOk d ∧ l.length ≤ 20 ∧ ∀ g ∈ l, GOk d.Ribs.length g := by
  unfold askG
  by_cases h : okD d = true
  · rw [if_pos h]
    by_cases h2 : (decide (l.length ≤ 20) && l.all (okGust d)) = true
    · rw [if_pos h2]
      simp only [Bool.and_eq_true, decide_eq_true_eq, List.all_eq_true, okGust_iff] at h2
      exact ⟨fun _ => ⟨okD_iff.1 h, h2⟩, fun _ => rfl⟩
    · rw [if_neg h2]
      simp only [Bool.and_eq_true, decide_eq_true_eq, List.all_eq_true, okGust_iff] at h2
      exact ⟨fun h => by simp at h, fun h => absurd h.2 h2⟩
  · rw [if_neg h]
    exact ⟨fun h => by simp at h, fun h2 => absurd (okD_iff.2 h2.1) h⟩
def ofL (c : Frac) : Int := min 200 (max 0 (100 + (100 * c.Num) / c.Den))
theorem ofL_in (c : Frac) : 0 ≤ ofL c ∧ ofL c ≤ 200 := by unfold ofL; omega
theorem floor_of {a b : Int} (hb : 0 < b) : (if a.tmod b < 0 then a.tdiv b - 1 else a.tdiv b) = a / b := by
  have h1 := Int.mul_tdiv_add_tmod a b
  have h2 := Int.tmod_lt_of_pos a hb
  have h3 : -b < a.tmod b := Int.lt_tmod_of_pos a hb
  split
  · have := (Int.ediv_emod_unique (a := a) (b := b) (q := a.tdiv b - 1) (r := a.tmod b + b) hb).2 ⟨by rw [Int.mul_sub, Int.mul_one]; omega, by omega, by omega⟩
    exact this.1.symm
  · have := (Int.ediv_emod_unique (a := a) (b := b) (q := a.tdiv b) (r := a.tmod b) hb).2 ⟨by omega, by omega, by omega⟩
    exact this.1.symm
theorem tdiv_abs {a b M : Int} (h1 : -M ≤ a) (h2 : a ≤ M) : -M ≤ a.tdiv b ∧ a.tdiv b ≤ M := by
  have h := Int.natAbs_tdiv a b
  have h3 := Nat.div_le_self a.natAbs b.natAbs
  have : (a.tdiv b).natAbs ≤ a.natAbs := by rw [h]; exact h3
  omega
theorem ofL_red {c : Frac} (h : 1 ≤ c.Den) : ofL (red c) = ofL c := by
  obtain ⟨g, h1, _, h3, h4, h5⟩ := red_spec h
  unfold ofL
  rw [h3, h4, show 100 * (g * (red c).Num) = g * (100 * (red c).Num) by rw [Int.mul_left_comm], Int.mul_ediv_mul_of_pos _ _ (by omega)]
theorem ofL_mono {x y : Frac} (hx : 1 ≤ x.Den) (hy : 1 ≤ y.Den) (h : ltF y x = false) : ofL x ≤ ofL y := by
  have h' : x.Num * y.Den ≤ y.Num * x.Den := by simp [ltF] at h; omega
  have key : 100 * x.Num / x.Den ≤ 100 * y.Num / y.Den := by
    rw [Int.le_ediv_iff_mul_le (by omega)]
    have h1 : (100 * x.Num / x.Den) * x.Den ≤ 100 * x.Num := Int.ediv_mul_le _ (by omega)
    have h2 : (100 * x.Num / x.Den) * x.Den * y.Den ≤ 100 * x.Num * y.Den := Int.mul_le_mul_of_nonneg_right h1 (by omega)
    have h3 : (100 * x.Num / x.Den) * y.Den * x.Den ≤ 100 * y.Num * x.Den := by
      rw [Int.mul_right_comm]
      refine Int.le_trans h2 ?_
      rw [Int.mul_assoc, Int.mul_assoc]; omega
    exact Int.le_of_mul_le_mul_right h3 (by omega)
  unfold ofL; omega
def liftAt (d : Canopy) (x : frames_sides) : Int := ofL (cosF d.Frame.Low x)
def liftS (d : Canopy) : Span := ⟨ofL (lowF d.Frame.Low (sidesL (secAt d.Frame 0))), ofL (highF d.Frame.Low (sidesL (secAt d.Frame 0)))⟩
theorem sec0 {d : Canopy} (hd : DOk d) : SecOk (secAt d.Frame 0) := hd.f.s _ (secAt_mem (by have := hd.f.n; omega))
theorem lift_spec {d : Canopy} (hd : DOk d) : (∀ x ∈ sidesL (secAt d.Frame 0), (liftS d).Low ≤ liftAt d x ∧ liftAt d x ≤ (liftS d).High) ∧ (∃ x ∈ sidesL (secAt d.Frame 0), liftAt d x = (liftS d).Low) ∧ (∃ x ∈ sidesL (secAt d.Frame 0), liftAt d x = (liftS d).High) := by
  have hl := hd.f.r
  have hs := sec0 hd
  have hd1 : 1 ≤ d.Frame.Low ∧ d.Frame.Low ≤ 6000 := by omega
  have hx : ∀ x ∈ sidesL (secAt d.Frame 0), XOk x := fun x hx => sides_ok hs hx
  have hne := sides_ne hs
  obtain ⟨⟨⟨a, ha, ea⟩, h1⟩, ⟨b, hb, eb⟩, h2⟩ := low_spec hd1 _ hx hne
  have hlo := low_ok hd1 _ hx hne
  refine ⟨fun x hxm => ⟨?_, ?_⟩, ⟨a, ha, ?_⟩, ⟨b, hb, ?_⟩⟩
  · exact ofL_mono hlo.1.1.1 (cos_ok hd1 (hx x hxm)).1.1.1 (h1 x hxm)
  · exact ofL_mono (cos_ok hd1 (hx x hxm)).1.1.1 hlo.2.1.1 (h2 x hxm)
  · show ofL _ = ofL _; rw [ea]
  · show ofL _ = ofL _; rw [eb]
theorem lift_in {d : Canopy} (hd : DOk d) : 0 ≤ (liftS d).Low ∧ (liftS d).Low ≤ (liftS d).High ∧ (liftS d).High ≤ 200 := by
  obtain ⟨h1, ⟨x, hx, e⟩, _⟩ := lift_spec hd
  have := h1 x hx
  have h2 : 0 ≤ (liftS d).Low := (ofL_in (lowF d.Frame.Low (sidesL (secAt d.Frame 0)))).1
  have h3 : (liftS d).High ≤ 200 := (ofL_in (highF d.Frame.Low (sidesL (secAt d.Frame 0)))).2
  exact ⟨h2, by omega, h3⟩
def bestB (d : Canopy) : gusts_blown := ⟨(liftS d).Low, d.Ribs.map (·.High), d.Shares⟩
def worstB (d : Canopy) : gusts_blown := ⟨(liftS d).High, d.Ribs.map (·.Low), d.Shares⟩
theorem best_ok {d : Canopy} (hd : DOk d) : BOk (bestB d) := by
  have := lift_in hd; have := hd.r
  exact ⟨by simpa [bestB] using hd.r, by simpa [bestB] using hd.s, by simp only [bestB]; omega, hd.sh⟩
theorem worst_ok {d : Canopy} (hd : DOk d) : BOk (worstB d) := by
  have := lift_in hd; have := hd.r
  exact ⟨by simpa [worstB] using hd.r, by simpa [worstB] using hd.s, by simp only [worstB]; omega, hd.sh⟩
def ldB (d : Canopy) (g : Gust) : Nat → Int := loadS (liftS d).Low d.Shares g
def ldW (d : Canopy) (g : Gust) : Nat → Int := loadS (liftS d).High d.Shares g
def stB (d : Canopy) (i : Nat) : Int := ((d.Ribs.map (·.High))[i]?).getD 0
def stW (d : Canopy) (i : Nat) : Int := ((d.Ribs.map (·.Low))[i]?).getD 0
def firstP (d : Canopy) (g : Gust) : Nat → Bool := G (ldW d g) (stW d) d.Ribs.length 1
def firstB (d : Canopy) (g : Gust) : Nat → Bool := G (ldB d g) (stB d) d.Ribs.length 1
def noneP (N : Nat) (p : Nat → Bool) : Bool := (List.range N).all fun i => !p i
theorem noneP_iff {N : Nat} {p : Nat → Bool} : noneP N p = true ↔ ∀ i, i < N → p i = false := by simp [noneP]
theorem enc_none {N : Nat} {p : Nat → Bool} : (((enc N p : Nat) : Int) == 0) = noneP N p := by
  rw [Bool.eq_iff_iff, noneP_iff]
  simp only [beq_iff_eq]
  rw [show (0 : Int) = ((0 : Nat) : Int) from rfl, Int.natCast_inj]
  exact enc_zero
def standsI (d : Canopy) (l : List Gust) : Int := if (l.all fun g => noneP d.Ribs.length (firstP d g)) = true then 1 else if (l.all fun g => noneP d.Ribs.length (firstB d g)) = true then 3 else 2
def standsT (d : Canopy) (l : List Gust) : Int × Int := if askG d l = 0 then (standsI d l, 0) else (0, askG d l)
section
variable {n : Nat} (hn : 100000000 ≤ n)
include hn
theorem p_gCheck {d : Canopy} (hs : Small d) : F_gusts_Check n d = some (if okD d = true then 0 else 50) := by
  have c1 := p_ContainsSpan hn d.Ribs (fun a0_ => F_gusts_Check_1 n a0_) (fun s => !okRib s) (fun s _ => by
    show some ((!wi s.Low 0 s.High) || decide (99999 < s.High)) = _
    have : decide (99999 < s.High) = !decide (s.High ≤ 99999) := by rw [← decide_not]; congr 1; simp
    rw [this, okRib, Bool.not_and]) hs.2.1
  have c2 := p_ContainsInt hn d.Shares (fun a0_ => F_gusts_Check_2 n a0_) (fun s => !okSh s) (fun s _ => rfl) hs.2.2
  have e1 : (d.Ribs.any fun s => !okRib s) = !d.Ribs.all okRib := by simp [List.any_eq_not_all_not]
  have e2 : (d.Shares.any fun s => !okSh s) = !d.Shares.all okSh := by simp [List.any_eq_not_all_not]
  have e3 : ((if okF d.Frame = true then (0 : Int) else 10) != 0) = !okF d.Frame := by cases okF d.Frame <;> rfl
  have ew : ∀ a b c, F_gusts_within n a b c = some (wi a b c) := fun _ _ _ => rfl
  simp only [F_gusts_Check, p_Check hn hs.1, Option.bind_some, e3, ew, or_br, c1, c2, e1, e2]
  have e4 : ((d.Shares.length : Int) != (d.Ribs.length : Int)) = !((d.Shares.length : Int) == (d.Ribs.length : Int)) := rfl
  have e : ((((!okF d.Frame || !wi (↑d.Ribs.length) 3 10) || !((d.Shares.length : Int) == (d.Ribs.length : Int))) || !d.Ribs.all okRib) || !d.Shares.all okSh) = !okD d := by
    simp only [okD, Bool.not_and]
  rw [e4, e]
  cases okD d <;> rfl
theorem p_gask {d : Canopy} (hs : Small d) {l : List Gust} (hl : l.length ≤ 1000) : F_gusts_ask n d l = some (askG d l) := by
  have ew : ∀ a b c, F_gusts_within n a b c = some (wi a b c) := fun _ _ _ => rfl
  have c := p_ContainsGust hn l (fun a0_ => F_gusts_ask_1 n a0_ d) (fun g => !okGust d g) (fun g _ => by
    simp only [F_gusts_ask_1, ew, Option.bind_some, or_br, okGust, Bool.not_and]
    rw [w64_id (by have := hs.2.1; omega) (by have := hs.2.1; omega)]) hl
  have e1 : (l.any fun g => !okGust d g) = !l.all (okGust d) := by simp [List.any_eq_not_all_not]
  simp only [F_gusts_ask, p_gCheck hn hs, Option.bind_some, c, e1, or_br, askG]
  cases okD d
  · rfl
  · simp only [if_true, bne_self_eq_false, Bool.false_eq_true, if_false]
    have e2 : (decide (20 < (l.length : Int)) || !l.all (okGust d)) = !(decide (l.length ≤ 20) && l.all (okGust d)) := by
      rw [Bool.not_and]
      congr 1
      rw [← decide_not]; congr 1; simp; omega
    rw [e2]
    cases (decide (l.length ≤ 20) && l.all (okGust d)) <;> rfl
theorem p_of {c : Frac} (h : FracOk c) : F_gusts_lift_1 n c = some (ofL c) := by
  have _hn := hn
  obtain ⟨⟨h1, h2⟩, h3, h4⟩ := h
  have hb : 0 < c.Den := by omega
  have hd := tdiv_abs (a := 100 * c.Num) (b := c.Den) (M := 4000000000) (by omega) (by omega)
  have hf := floor_of (a := 100 * c.Num) hb
  have hz : nz c.Den = some () := by unfold nz; rw [if_neg (by omega)]
  simp only [F_gusts_lift_1, F_gusts_down, hz, Option.bind_some]
  rw [w64_id (n := 100 * c.Num) (by omega) (by omega), w64_id (n := (100 * c.Num).tdiv c.Den) (by omega) (by omega), w64_id (n := (100 * c.Num).tdiv c.Den - 1) (by omega) (by omega)]
  unfold ofL
  rw [← hf]
  by_cases hc : (100 * c.Num).tmod c.Den < 0
  · simp only [hc, decide_true, if_true, Option.bind_some]
    rw [w64_id (by omega) (by omega)]
  · simp only [hc, decide_false, Bool.false_eq_true, if_false, Option.bind_some]
    rw [w64_id (by omega) (by omega)]
theorem p_lift {d : Canopy} (hd : DOk d) : F_gusts_lift n d = some (liftS d) := by
  have hl := hd.f.r
  have hs := sec0 hd
  have hd1 : 1 ≤ d.Frame.Low ∧ d.Frame.Low ≤ 6000 := by omega
  have hlo := low_ok hd1 _ (fun x hx => sides_ok hs hx) (sides_ne hs)
  have ha : askT d.Frame 0 d.Frame.Low = 0 := ask_zero (okF_iff.2 hd.f) (by
    have := hd.f.n
    simp only [Bool.and_eq_true, wi_t]; omega)
  have hdist : dist d.Frame 0 d.Frame.Low = d.Frame.Low := by
    have : (d.Frame.Sections.take (0 + 1)).drop 1 = [] := by cases d.Frame.Sections <;> simp
    unfold dist; rw [this]; rfl
  have e : cosineT d.Frame 0 d.Frame.Low = (red (lowF d.Frame.Low (sidesL (secAt d.Frame 0))), red (highF d.Frame.Low (sidesL (secAt d.Frame 0))), 0) := by
    unfold cosineT
    rw [if_pos ha, show (0 : Int).toNat = 0 from rfl, hdist, if_neg (by omega)]
  simp only [F_gusts_lift, p_Cosine hn hd.small.1, e, Option.bind_some, p_of hn (red_ok hlo.1), p_of hn (red_ok hlo.2), ofL_red hlo.1.1.1, ofL_red hlo.2.1.1]
  rfl
theorem p_ends {d : Canopy} (hd : DOk d) : F_gusts_ends n d = some (bestB d, worstB d) := by
  have hr := hd.r
  have kk := loop_fold (step := F_gusts_ends_s1 n d) d.Ribs (fun i (z : List Int × List Int) => ((i : Int), z.1, z.2)) (fun z s => (z.1 ++ [s.High], z.2 ++ [s.Low])) (fun z => (z.1, z.2)) (fun i z => z.1.length = i ∧ z.2.length = i) (n := n) ([], []) ⟨rfl, rfl⟩ (fun i x z hx hz => ?_) (fun z hz => ?_) (by omega)
  · have k1 := kk.1
    rw [show ((0 : Nat) : Int) = 0 from rfl] at k1
    simp only at k1
    simp only [F_gusts_ends, p_lift hn hd, Option.bind_some, k1, bestB, worstB]
    have e := foldl_pair (fun (z : List Int) (s : Span) => z ++ [s.High]) (fun (z : List Int) (s : Span) => z ++ [s.Low]) d.Ribs [] []
    rw [e, foldl_append_map, foldl_append_map]
    rfl
  · have hi := (List.getElem?_eq_some_iff.1 hx).1
    refine ⟨?_, ?_⟩
    · simp only [F_gusts_ends_s1, lt_nat, hi, decide_true, if_true, geti_nat, hx, Option.bind_some]
      rw [lim_ok (by simp; omega), lim_ok (by simp; omega)]
      simp only [Option.bind_some, w64_nat (show i ≤ 4611686018427387904 by omega)]
    · simp [hz.1, hz.2]
  · simp [F_gusts_ends_s1]
omit hn in
theorem ribs_len {d : Canopy} : (bestB d).ribs.length = d.Ribs.length ∧ (worstB d).ribs.length = d.Ribs.length := by simp [bestB, worstB]
theorem p_firstB {d : Canopy} (hd : DOk d) {g : Gust} (hg : GOk d.Ribs.length g) : F_gusts_blown_first n (bestB d) g = some ((enc d.Ribs.length (firstB d g) : Nat) : Int) := by
  have := p_first hn (best_ok hd) (g := g) (by rw [ribs_len.1]; exact hg)
  rw [ribs_len.1] at this
  exact this
theorem p_firstW {d : Canopy} (hd : DOk d) {g : Gust} (hg : GOk d.Ribs.length g) : F_gusts_blown_first n (worstB d) g = some ((enc d.Ribs.length (firstP d g) : Nat) : Int) := by
  have := p_first hn (worst_ok hd) (g := g) (by rw [ribs_len.2]; exact hg)
  rw [ribs_len.2] at this
  exact this
theorem p_Stands {d : Canopy} (hs : Small d) {l : List Gust} (hl : l.length ≤ 1000) : F_gusts_Stands n d l = some (standsT d l) := by
  simp only [F_gusts_Stands, p_gask hn hs hl, Option.bind_some, standsT]
  by_cases h : askG d l = 0
  · obtain ⟨hd, _, hg⟩ := askG_ok.1 h
    have c1 := p_ContainsGust hn l (fun a0_ => F_gusts_blown_stands_1 n a0_ (worstB d)) (fun g => !noneP d.Ribs.length (firstP d g)) (fun g hgm => by
      simp only [F_gusts_blown_stands_1, p_firstW hn hd (hg g hgm), Option.bind_some]
      rw [← enc_none]; rfl) hl
    have c2 := p_ContainsGust hn l (fun a0_ => F_gusts_blown_stands_1 n a0_ (bestB d)) (fun g => !noneP d.Ribs.length (firstB d g)) (fun g hgm => by
      simp only [F_gusts_blown_stands_1, p_firstB hn hd (hg g hgm), Option.bind_some]
      rw [← enc_none]; rfl) hl
    have e1 : ∀ (q : Gust → Bool), (l.any fun g => !q g) = !l.all q := fun q => by simp [List.any_eq_not_all_not]
    simp only [h, bne_self_eq_false, Bool.false_eq_true, if_false, if_true, p_ends hn hd, Option.bind_some, F_gusts_blown_stands, c1, c2, e1, Bool.not_not, standsI]
    cases (l.all fun g => noneP d.Ribs.length (firstP d g))
    · cases (l.all fun g => noneP d.Ribs.length (firstB d g)) <;> rfl
    · rfl
  · simp [h]
end
end Go.Proofs.YtcipdblhopffbaaGreat
end
