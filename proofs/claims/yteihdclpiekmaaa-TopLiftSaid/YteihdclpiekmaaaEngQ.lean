/-
  Plain laws over printed functions: loops as folds, searches and walks over lists.
-/
import Derived.Test.YteihdclpiekmaaaEngP
namespace Go.Dec

theorem w64_nat {i : Nat} (h : i ≤ 4611686018427387904) : w64 ((i : Int) + 1) = ((i + 1 : Nat) : Int) := by
  rw [w64_id] <;> omega
theorem w64_nat' {i k : Nat} (h : i < k) (hk : k ≤ 9223372036854775807) : w64 ((i : Int) + 1) = ((i + 1 : Nat) : Int) := by
  rw [w64_id] <;> omega
theorem lim_ok {α : Type} {l : List α} (h : l.length ≤ 4294967296) : lim l = some l := by simp [lim, h]

section
variable {S R : Type} {step : S → Option (S ⊕ R)}
theorem loopO_succ {n : Nat} {s : S} : loopO (n + 1) step s = (match step s with | none => none | some (.inl s') => loopO n step s' | some (.inr r) => some r) := by
  rw [loopO]; rcases step s with _ | (_ | _) <;> rfl
theorem loop_done {n : Nat} {s : S} {r : R} (h : step s = some (.inr r)) (hn : 0 < n) : loopO n step s = some r := by
  obtain ⟨m, rfl⟩ : ∃ k, n = k + 1 := ⟨n - 1, by omega⟩
  rw [loopO_succ, h]
/-- a run of states -/
theorem loop_run (s : Nat → S) {r : R} : ∀ (k i n : Nat), (∀ j, i ≤ j → j < i + k → step (s j) = some (.inl (s (j + 1)))) → step (s (i + k)) = some (.inr r) → k < n → loopO n step (s i) = some r := by
  intro k
  induction k with
  | zero => intro i n _ h hn; exact loop_done h hn
  | succ k ih =>
    intro i n h hd hn
    obtain ⟨m, rfl⟩ : ∃ k, n = k + 1 := ⟨n - 1, by omega⟩
    rw [loopO_succ, h i (Nat.le_refl _) (by omega)]
    exact ih (i + 1) m (fun j h1 h2 => h j (by omega) (by omega)) (by rw [show i + 1 + k = i + (k + 1) by omega]; exact hd) (by omega)

/-- a loop that folds a list; I: what is so of the state before round i -/
theorem loop_fold {α β : Type} (l : List α) (enc : Nat → β → S) (g : β → α → β) (fin : β → R) (I : Nat → β → Prop) {n : Nat} (b0 : β) (h0 : I 0 b0)
    (h : ∀ i x b, l[i]? = some x → I i b → step (enc i b) = some (.inl (enc (i + 1) (g b x))) ∧ I (i + 1) (g b x))
    (hd : ∀ b, I l.length b → step (enc l.length b) = some (.inr (fin b))) (hn : l.length < n) : loopO n step (enc 0 b0) = some (fin (l.foldl g b0)) ∧ I l.length (l.foldl g b0) := by
  have key : ∀ (k i : Nat) (b : β) (n : Nat), i + k = l.length → I i b → k < n → loopO n step (enc i b) = some (fin ((l.drop i).foldl g b)) ∧ I l.length ((l.drop i).foldl g b) := by
    intro k
    induction k with
    | zero =>
      intro i b n hi hI hn
      have e : i = l.length := by omega
      subst e
      rw [List.drop_length]
      exact ⟨loop_done (hd b hI) hn, hI⟩
    | succ k ih =>
      intro i b n hi hI hn
      obtain ⟨m, rfl⟩ : ∃ k, n = k + 1 := ⟨n - 1, by omega⟩
      have hlt : i < l.length := by omega
      obtain ⟨h1, h2⟩ := h i l[i] b (List.getElem?_eq_getElem hlt) hI
      rw [loopO_succ, h1, List.drop_eq_getElem_cons hlt, List.foldl_cons]
      exact ih (i + 1) _ m (by omega) h2 (by omega)
  have := key l.length 0 b0 n (by omega) h0 hn
  rwa [List.drop_zero] at this

/-- .. with nothing to be remembered -/
theorem loop_foldl {α β : Type} (l : List α) (enc : Nat → β → S) (g : β → α → β) (fin : β → R) {n : Nat} (b0 : β)
    (h : ∀ i x b, l[i]? = some x → i < l.length → step (enc i b) = some (.inl (enc (i + 1) (g b x))))
    (hd : ∀ b, step (enc l.length b) = some (.inr (fin b))) (hn : l.length < n) : loopO n step (enc 0 b0) = some (fin (l.foldl g b0)) :=
  (loop_fold l enc g fin (fun _ _ => True) b0 trivial (fun i x b hx _ => ⟨h i x b hx (List.getElem?_eq_some_iff.1 hx).1, trivial⟩) (fun b _ => hd b) hn).1

/-- a search by index -/
theorem loop_all_any {ρ : Type} {step : Int → Option (Int ⊕ (ρ ⊕ Unit))} (k : Nat) (p : Nat → Bool) (r : ρ) {n : Nat}
    (h : ∀ i, i < k → step (i : Int) = some (bif p i then .inl ((i + 1 : Nat) : Int) else .inr (.inl r))) (hd : step (k : Int) = some (.inr (.inr ()))) (hn : k < n) :
    loopO n step 0 = some (bif (List.range k).all p then .inr () else .inl r) := by
  have key : ∀ (m i n : Nat), i + m = k → m < n → loopO n step (i : Int) = some (bif (List.range' i m).all p then .inr () else .inl r) := by
    intro m
    induction m with
    | zero => intro i n hi hn; have : i = k := by omega
              subst this; rw [loop_done hd (by omega)]; simp
    | succ m ih =>
      intro i n hi hn
      obtain ⟨m', rfl⟩ : ∃ k, n = k + 1 := ⟨n - 1, by omega⟩
      rw [loopO_succ, h i (by omega), List.range'_succ, List.all_cons]
      cases hp : p i with
      | false => simp
      | true => simp only [cond_true, Bool.true_and]; exact ih (i + 1) m' (by omega) (by omega)
  have := key k 0 n (by omega) hn
  rw [List.range_eq_range']
  exact this
/-- a search by index -/
theorem loop_all {ρ : Type} {step : Int → Option (Int ⊕ (ρ ⊕ Unit))} (k : Nat) (p : Nat → Bool) (r : ρ) {n : Nat} (hk : k ≤ 4611686018427387904)
    (h : ∀ i, i < k → step (i : Int) = some (bif p i then .inl ((i + 1 : Nat) : Int) else .inr (.inl r))) (hd : step (k : Int) = some (.inr (.inr ()))) (hn : k < n) :
    loopO n step 0 = some (bif (List.range k).all p then .inr () else .inl r) := by
  have key : ∀ (m i n : Nat), i + m = k → m < n → loopO n step (i : Int) = some (bif (List.range' i m).all p then .inr () else .inl r) := by
    intro m
    induction m with
    | zero => intro i n hi hn; have : i = k := by omega
              subst this; rw [loop_done hd (by omega)]; simp
    | succ m ih =>
      intro i n hi hn
      obtain ⟨m', rfl⟩ : ∃ k, n = k + 1 := ⟨n - 1, by omega⟩
      rw [loopO_succ, h i (by omega), List.range'_succ, List.all_cons]
      cases hp : p i with
      | false => simp
      | true => simp only [cond_true, Bool.true_and]; exact ih (i + 1) m' (by omega) (by omega)
  have := key k 0 n (by omega) hn
  rw [List.range_eq_range']
  exact this
/-- a search in a list -/
theorem loop_all_l {α ρ : Type} {step : Int → Option (Int ⊕ (ρ ⊕ Unit))} (l : List α) (p : α → Bool) (r : ρ) {n : Nat} (hk : l.length ≤ 4611686018427387904)
    (h : ∀ i x, l[i]? = some x → i < l.length → step (i : Int) = some (bif p x then .inl ((i + 1 : Nat) : Int) else .inr (.inl r))) (hd : step (l.length : Int) = some (.inr (.inr ()))) (hn : l.length < n) :
    loopO n step 0 = some (bif l.all p then .inr () else .inl r) := by
  have := loop_all l.length (fun i => match l[i]? with | some x => p x | none => true) r hk (fun i hi => by
    rw [h i l[i] (List.getElem?_eq_getElem hi) hi]; simp [hi]) hd hn
  rw [this]
  have e : (List.range l.length).all (fun i => match l[i]? with | some x => p x | none => true) = l.all p := by
    rw [Bool.eq_iff_iff]
    simp only [List.all_eq_true, List.mem_range]
    constructor
    · intro h x hx
      obtain ⟨i, hi⟩ := List.mem_iff_getElem?.1 hx
      have := h i (List.getElem?_eq_some_iff.1 hi).1
      simpa [hi] using this
    · intro h i hi
      simpa [hi] using h _ (List.getElem_mem hi)
  rw [e]
end

/-- the first one that is such -/
theorem first_of {α : Type} {p : α → Bool} : ∀ {s : List α}, s.any p = true → ∃ i : Nat, ∃ x, s[i]? = some x ∧ p x = true ∧ ∀ (j : Nat) y, j < i → s[j]? = some y → p y = false
  | [], h => by simp at h
  | a :: s, h => by
    by_cases ha : p a = true
    · exact ⟨0, a, rfl, ha, by intros; omega⟩
    · have hs : s.any p = true := by simpa [ha] using h
      obtain ⟨i, x, h1, h2, h3⟩ := first_of hs
      refine ⟨i + 1, x, by simpa using h1, h2, fun j y hj hy => ?_⟩
      cases j with
      | zero => simp at hy; subst hy; simpa using ha
      | succ j => exact h3 j y (by omega) (by simpa using hy)
/-- a walk over what an iterator yields -/
def foldO {σ ρ α : Type} (cs : σ → α → Option (σ ⊕ ρ)) : σ → List α → Option (σ ⊕ ρ)
  | s, [] => some (.inl s)
  | s, a :: l => (cs s a).bind fun y => match y with | .inl s' => foldO cs s' l | .inr r => some (.inr r)
theorem foldO_foldl {σ ρ α : Type} {cs : σ → α → Option (σ ⊕ ρ)} (g : σ → α → σ) (I : Nat → σ → Prop) : ∀ (l : List α) (k : Nat) (s : σ), I k s → (∀ i s a, i < k + l.length → a ∈ l → I i s → cs s a = some (.inl (g s a)) ∧ I (i + 1) (g s a)) →
    foldO cs s l = some (.inl (l.foldl g s)) ∧ I (k + l.length) (l.foldl g s)
  | [], k, s, h, _ => ⟨rfl, h⟩
  | a :: l, k, s, h, hs => by
    obtain ⟨h1, h2⟩ := hs k s a (by simp) (List.mem_cons_self ..) h
    obtain ⟨h3, h4⟩ := foldO_foldl g I l (k + 1) _ h2 (fun i s a hi ha => hs i s a (by rw [List.length_cons]; omega) (List.mem_cons_of_mem _ ha))
    refine ⟨by simp [foldO, h1, h3], ?_⟩
    rw [List.length_cons, show k + (l.length + 1) = k + 1 + l.length by omega]
    exact h4
theorem foldO_append {σ ρ α : Type} {cs : σ → α → Option (σ ⊕ ρ)} : ∀ (l m : List α) (s : σ), foldO cs s (l ++ m) = (foldO cs s l).bind fun y => match y with | .inl s' => foldO cs s' m | .inr r => some (.inr r)
  | [], m, s => by simp [foldO]
  | a :: l, m, s => by
    simp only [List.cons_append, foldO]
    cases cs s a with
    | none => rfl
    | some y => cases y with
      | inl s' => simp [foldO_append l m s']
      | inr r => simp
theorem foldl_filter_append {α : Type} (p : α → Bool) : ∀ (l out : List α), l.foldl (fun o x => if p x = true then o ++ [x] else o) out = out ++ l.filter p
  | [], out => by simp
  | a :: l, out => by
    rw [List.foldl_cons, foldl_filter_append p l]
    cases h : p a <;> simp [h]
theorem foldl_count {α : Type} (p : α → Bool) : ∀ (l : List α) (k : Int), l.foldl (fun o x => if p x = true then o + 1 else o) k = k + (l.countP p : Nat)
  | [], k => by simp
  | a :: l, k => by
    rw [List.foldl_cons, foldl_count p l]
    cases h : p a <;> simp [h, List.countP_cons]; omega
theorem foldl_append_map {α β : Type} (f : α → β) : ∀ (l : List α) (out : List β), l.foldl (fun o x => o ++ [f x]) out = out ++ l.map f
  | [], out => by simp
  | a :: l, out => by rw [List.foldl_cons, foldl_append_map f l]; simp
theorem foldl_pair {α β γ : Type} (f : β → α → β) (g : γ → α → γ) : ∀ (l : List α) (b : β) (c : γ), l.foldl (fun s x => (f s.1 x, g s.2 x)) (b, c) = (l.foldl f b, l.foldl g c)
  | [], _, _ => rfl
  | a :: l, b, c => by simp only [List.foldl_cons]; exact foldl_pair f g l _ _
theorem foldl_map' {α β γ : Type} (f : α → β) (g : γ → β → γ) : ∀ (l : List α) (c : γ), l.foldl (fun s x => g s (f x)) c = (l.map f).foldl g c
  | [], _ => rfl
  | a :: l, c => by simp only [List.foldl_cons, List.map_cons]; exact foldl_map' f g l _
/-- least and greatest -/
theorem foldl_min {a m : Int} : ∀ (l : List Int) (a : Int), (∀ x ∈ a :: l, l.foldl min a ≤ x) ∧ l.foldl min a ∈ a :: l
  | [], a => by simp
  | b :: l, a => by
    obtain ⟨h1, h2⟩ := foldl_min (a := a) (m := m) l (min a b)
    rw [List.foldl_cons]
    refine ⟨fun x hx => ?_, ?_⟩
    · have h3 := h1 _ (List.mem_cons_self ..)
      rcases List.mem_cons.1 hx with rfl | hx
      · omega
      · rcases List.mem_cons.1 hx with rfl | hx
        · omega
        · exact h1 x (List.mem_cons_of_mem _ hx)
    · rcases List.mem_cons.1 h2 with h2 | h2
      · rw [h2]
        rcases Int.le_total a b with h | h
        · rw [Int.min_eq_left h]; exact List.mem_cons_self ..
        · rw [Int.min_eq_right h]; exact List.mem_cons_of_mem _ (List.mem_cons_self ..)
      · exact List.mem_cons_of_mem _ (List.mem_cons_of_mem _ h2)
theorem foldl_max {a m : Int} : ∀ (l : List Int) (a : Int), (∀ x ∈ a :: l, x ≤ l.foldl max a) ∧ l.foldl max a ∈ a :: l
  | [], a => by simp
  | b :: l, a => by
    obtain ⟨h1, h2⟩ := foldl_max (a := a) (m := m) l (max a b)
    rw [List.foldl_cons]
    refine ⟨fun x hx => ?_, ?_⟩
    · have h3 := h1 _ (List.mem_cons_self ..)
      rcases List.mem_cons.1 hx with rfl | hx
      · omega
      · rcases List.mem_cons.1 hx with rfl | hx
        · omega
        · exact h1 x (List.mem_cons_of_mem _ hx)
    · rcases List.mem_cons.1 h2 with h2 | h2
      · rw [h2]
        rcases Int.le_total a b with h | h
        · rw [Int.max_eq_right h]; exact List.mem_cons_of_mem _ (List.mem_cons_self ..)
        · rw [Int.max_eq_left h]; exact List.mem_cons_self ..
      · exact List.mem_cons_of_mem _ (List.mem_cons_of_mem _ h2)
end Go.Dec
