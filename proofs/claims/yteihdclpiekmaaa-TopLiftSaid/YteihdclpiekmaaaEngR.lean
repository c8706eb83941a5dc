/-
  Plain laws over printed functions: spans of numbers, iterators that count, Euclid's algorithm, products in bounds.
-/
import Derived.Test.YteihdclpiekmaaaEngQ
namespace Go.Dec

/-! ### spans -/
def span (a b : Int) : List Int := (List.range (b + 1 - a).toNat).map fun j : Nat => a + j
def down (b a : Int) : List Int := (List.range (b + 1 - a).toNat).map fun j : Nat => b - j
theorem span_mem' {a b x : Int} : x ∈ span a b ↔ a ≤ x ∧ x ≤ b := by
  simp only [span, List.mem_map, List.mem_range]
  constructor
  · rintro ⟨j, h, rfl⟩; omega
  · intro h; exact ⟨(x - a).toNat, by omega, by omega⟩
theorem down_mem {a b x : Int} : x ∈ down b a ↔ a ≤ x ∧ x ≤ b := by
  simp only [down, List.mem_map, List.mem_range]
  constructor
  · rintro ⟨j, h, rfl⟩; omega
  · intro h; exact ⟨(b - x).toNat, by omega, by omega⟩
theorem span_len (a b : Int) : (span a b).length = (b + 1 - a).toNat := by simp [span]
theorem down_len (b a : Int) : (down b a).length = (b + 1 - a).toNat := by simp [down]
theorem span_nil {a b : Int} (h : b < a) : span a b = [] := by
  have : (b + 1 - a).toNat = 0 := by omega
  simp [span, this]
theorem down_nil {a b : Int} (h : b < a) : down b a = [] := by
  have : (b + 1 - a).toNat = 0 := by omega
  simp [down, this]
theorem span_cons {a b : Int} (h : a ≤ b) : span a b = a :: span (a + 1) b := by
  have : (b + 1 - a).toNat = (b + 1 - (a + 1)).toNat + 1 := by omega
  unfold span
  rw [this, List.range_succ_eq_map, List.map_cons, List.map_map]
  simp only [Int.natCast_zero, Int.add_zero]
  congr 1
  apply List.map_congr_left
  intro j _
  simp only [Function.comp]
  omega
theorem down_cons {a b : Int} (h : a ≤ b) : down b a = b :: down (b - 1) a := by
  have : (b + 1 - a).toNat = (b - 1 + 1 - a).toNat + 1 := by omega
  unfold down
  rw [this, List.range_succ_eq_map, List.map_cons, List.map_map]
  simp only [Int.natCast_zero, Int.sub_zero]
  congr 1
  apply List.map_congr_left
  intro j _
  simp only [Function.comp]
  omega

/-- an iterator that counts up -/
theorem loop_up {σ ρ : Type} (cs : σ → Int → Option (σ ⊕ ρ)) {step : Int × σ → Option ((Int × σ) ⊕ (σ ⊕ ρ))} {hi : Int} : ∀ (k : Nat) (lo : Int) (s : σ) (n : Nat), (hi + 1 - lo).toNat = k →
    (∀ b s, lo ≤ b → b ≤ hi → step (b, s) = (cs s b).bind fun y => match y with | .inl s' => some (.inl (b + 1, s')) | .inr e => some (.inr (.inr e))) → (∀ b s, hi < b → b ≤ max lo (hi + 1) → step (b, s) = some (.inr (.inl s))) → k < n →
    loopO n step (lo, s) = foldO cs s (span lo hi) := by
  intro k
  induction k with
  | zero =>
    intro lo s n hk _ hd hn
    rw [span_nil (by omega), loop_done (hd lo s (by omega) (by omega)) hn]
    rfl
  | succ k ih =>
    intro lo s n hk h hd hn
    obtain ⟨m, rfl⟩ : ∃ k, n = k + 1 := ⟨n - 1, by omega⟩
    rw [span_cons (by omega), loopO_succ, h lo s (by omega) (by omega)]
    simp only [foldO]
    cases cs s lo with
    | none => rfl
    | some y => cases y with
      | inl s' =>
        simp only [Option.bind_some]
        exact ih (lo + 1) s' m (by omega) (fun b s h1 h2 => h b s (by omega) h2) (fun b s h1 h2 => hd b s h1 (by omega)) (by omega)
      | inr e => rfl
/-- .. down -/
theorem loop_down {σ ρ : Type} (cs : σ → Int → Option (σ ⊕ ρ)) {step : Int × σ → Option ((Int × σ) ⊕ (σ ⊕ ρ))} {lo : Int} : ∀ (k : Nat) (hi : Int) (s : σ) (n : Nat), (hi + 1 - lo).toNat = k →
    (∀ b s, lo ≤ b → b ≤ hi → step (b, s) = (cs s b).bind fun y => match y with | .inl s' => some (.inl (b - 1, s')) | .inr e => some (.inr (.inr e))) → (∀ b s, b < lo → min hi (lo - 1) ≤ b → step (b, s) = some (.inr (.inl s))) → k < n →
    loopO n step (hi, s) = foldO cs s (down hi lo) := by
  intro k
  induction k with
  | zero =>
    intro hi s n hk _ hd hn
    rw [down_nil (by omega), loop_done (hd hi s (by omega) (by omega)) hn]
    rfl
  | succ k ih =>
    intro hi s n hk h hd hn
    obtain ⟨m, rfl⟩ : ∃ k, n = k + 1 := ⟨n - 1, by omega⟩
    rw [down_cons (by omega), loopO_succ, h hi s (by omega) (by omega)]
    simp only [foldO]
    cases cs s hi with
    | none => rfl
    | some y => cases y with
      | inl s' =>
        simp only [Option.bind_some]
        exact ih (hi - 1) s' m (by omega) (fun b s h1 h2 => h b s h1 (by omega)) (fun b s h1 h2 => hd b s h1 (by omega)) (by omega)
      | inr e => rfl
theorem foldO_flatMap {σ ρ α β : Type} {cs : σ → α → Option (σ ⊕ ρ)} (f : β → List α) : ∀ (l : List β) (s : σ), foldO cs s (l.flatMap f) = foldO (fun s b => foldO cs s (f b)) s l
  | [], s => by simp [foldO]
  | b :: l, s => by
    rw [List.flatMap_cons, foldO_append, foldO]
    congr 1
    funext y
    cases y with
    | inl s' => exact foldO_flatMap f l s'
    | inr r => rfl
theorem foldO_map {σ ρ α β : Type} {cs : σ → α → Option (σ ⊕ ρ)} (f : β → α) : ∀ (l : List β) (s : σ), foldO cs s (l.map f) = foldO (fun s b => cs s (f b)) s l
  | [], s => by simp [foldO]
  | b :: l, s => by
    rw [List.map_cons, foldO, foldO]
    congr 1
    funext y
    cases y with
    | inl s' => exact foldO_map f l s'
    | inr r => rfl
theorem foldO_any {ρ α : Type} {cs : Unit → α → Option (Unit ⊕ ρ)} (p : α → Bool) (r : ρ) : ∀ (l : List α), (∀ a ∈ l, cs () a = some (bif p a then .inr r else .inl ())) → foldO cs () l = some (bif l.any p then .inr r else .inl ())
  | [], _ => rfl
  | a :: l, h => by
    rw [foldO, h a (List.mem_cons_self ..), List.any_cons]
    cases p a with
    | true => rfl
    | false => simp only [cond_false, Option.bind_some, Bool.false_or]; exact foldO_any p r l fun b hb => h b (List.mem_cons_of_mem _ hb)
theorem foldO_congr {σ ρ α : Type} {cs cs' : σ → α → Option (σ ⊕ ρ)} : ∀ (l : List α) (s : σ), (∀ s a, a ∈ l → cs s a = cs' s a) → foldO cs s l = foldO cs' s l
  | [], _, _ => rfl
  | a :: l, s, h => by
    rw [foldO, foldO, h s a (List.mem_cons_self ..)]
    congr 1
    funext y
    cases y with
    | inl s' => exact foldO_congr l s' fun s b hb => h s b (List.mem_cons_of_mem _ hb)
    | inr r => rfl

/-! ### searches that count numbers -/
theorem loop_span_all {ρ : Type} {step : Int → Option (Int ⊕ (ρ ⊕ Unit))} (p : Int → Bool) (r : ρ) {hi : Int} : ∀ (k : Nat) (lo : Int) (n : Nat), (hi + 1 - lo).toNat = k →
    (∀ b, lo ≤ b → b ≤ hi → step b = some (bif p b then .inl (b + 1) else .inr (.inl r))) → (∀ b, hi < b → b ≤ max lo (hi + 1) → step b = some (.inr (.inr ()))) → k < n → loopO n step lo = some (bif (span lo hi).all p then .inr () else .inl r) := by
  intro k
  induction k with
  | zero =>
    intro lo n hk _ hd hn
    rw [span_nil (by omega), loop_done (hd lo (by omega) (by omega)) hn]
    rfl
  | succ k ih =>
    intro lo n hk h hd hn
    obtain ⟨m, rfl⟩ : ∃ k, n = k + 1 := ⟨n - 1, by omega⟩
    rw [span_cons (by omega), loopO_succ, h lo (by omega) (by omega), List.all_cons]
    cases p lo with
    | false => rfl
    | true =>
      simp only [cond_true, Bool.true_and]
      exact ih (lo + 1) m (by omega) (fun b h1 h2 => h b (by omega) h2) (fun b h1 h2 => hd b h1 (by omega)) (by omega)

/-- a loop over a span that folds -/
theorem loop_span_fold {S R β : Type} {step : S → Option (S ⊕ R)} (enc : Int → β → S) (g : β → Int → β) (fin : β → R) (I : Int → β → Prop) {hi : Int} : ∀ (k : Nat) (lo : Int) (b0 : β) (n : Nat), (hi + 1 - lo).toNat = k → I lo b0 →
    (∀ i b, lo ≤ i → i ≤ hi → I i b → step (enc i b) = some (.inl (enc (i + 1) (g b i))) ∧ I (i + 1) (g b i)) → (∀ i b, hi < i → i ≤ max lo (hi + 1) → I i b → step (enc i b) = some (.inr (fin b))) → k < n →
    loopO n step (enc lo b0) = some (fin ((span lo hi).foldl g b0)) ∧ I (max lo (hi + 1)) ((span lo hi).foldl g b0) := by
  intro k
  induction k with
  | zero =>
    intro lo b0 n hk h0 _ hd hn
    rw [span_nil (by omega), loop_done (hd lo b0 (by omega) (by omega) h0) hn]
    rw [show max lo (hi + 1) = lo by omega]
    exact ⟨rfl, h0⟩
  | succ k ih =>
    intro lo b0 n hk h0 h hd hn
    obtain ⟨m, rfl⟩ : ∃ k, n = k + 1 := ⟨n - 1, by omega⟩
    obtain ⟨h1, h2⟩ := h lo b0 (by omega) (by omega) h0
    rw [span_cons (by omega), loopO_succ, h1, List.foldl_cons]
    have := ih (lo + 1) (g b0 lo) m (by omega) h2 (fun i b h1 h2 => h i b (by omega) h2) (fun i b h1 h2 => hd i b h1 (by omega)) (by omega)
    rw [show max (lo + 1) (hi + 1) = max lo (hi + 1) by omega] at this
    exact this

/-! ### searches that find something -/
theorem loop_find {ρ : Type} {step : Int → Option (Int ⊕ (ρ ⊕ Unit))} (e : Nat → Option ρ) {n : Nat} (k : Nat) (h : ∀ i, i < k → step (i : Int) = some (match e i with | some r => .inr (.inl r) | none => .inl ((i + 1 : Nat) : Int))) (hd : step (k : Int) = some (.inr (.inr ()))) (hn : k < n) :
    loopO n step 0 = some (match (List.range k).findSome? e with | some r => .inl r | none => .inr ()) := by
  have key : ∀ (m i n : Nat), i + m = k → m < n → loopO n step (i : Int) = some (match (List.range' i m).findSome? e with | some r => .inl r | none => .inr ()) := by
    intro m
    induction m with
    | zero => intro i n hi hn; have : i = k := by omega
              subst this; rw [loop_done hd (by omega)]; rfl
    | succ m ih =>
      intro i n hi hn
      obtain ⟨m', rfl⟩ : ∃ k, n = k + 1 := ⟨n - 1, by omega⟩
      rw [loopO_succ, h i (by omega), List.range'_succ, List.findSome?_cons]
      cases hp : e i with
      | some r => rfl
      | none => exact ih (i + 1) m' (by omega) (by omega)
  have := key k 0 n (by omega) hn
  rw [List.range_eq_range']
  exact this
theorem loop_down_find {ρ : Type} {step : Int → Option (Int ⊕ (ρ ⊕ Unit))} (e : Int → Option ρ) {lo : Int} : ∀ (k : Nat) (hi : Int) (n : Nat), (hi + 1 - lo).toNat = k →
    (∀ b, lo ≤ b → b ≤ hi → step b = some (match e b with | some r => .inr (.inl r) | none => .inl (b - 1))) → (∀ b, b < lo → min hi (lo - 1) ≤ b → step b = some (.inr (.inr ()))) → k < n →
    loopO n step hi = some (match (down hi lo).findSome? e with | some r => .inl r | none => .inr ()) := by
  intro k
  induction k with
  | zero =>
    intro hi n hk _ hd hn
    rw [down_nil (by omega), loop_done (hd hi (by omega) (by omega)) hn]
    rfl
  | succ k ih =>
    intro hi n hk h hd hn
    obtain ⟨m, rfl⟩ : ∃ k, n = k + 1 := ⟨n - 1, by omega⟩
    rw [down_cons (by omega), loopO_succ, h hi (by omega) (by omega), List.findSome?_cons]
    cases e hi with
    | some r => rfl
    | none => exact ih (hi - 1) m (by omega) (fun b h1 h2 => h b h1 (by omega)) (fun b h1 h2 => hd b h1 (by omega)) (by omega)
theorem foldO_find {ρ α : Type} {cs : Unit → α → Option (Unit ⊕ ρ)} (e : α → Option ρ) : ∀ (l : List α), (∀ a ∈ l, cs () a = some (match e a with | some r => .inr r | none => .inl ())) → foldO cs () l = some (match l.findSome? e with | some r => .inr r | none => .inl ())
  | [], _ => rfl
  | a :: l, h => by
    rw [foldO, h a (List.mem_cons_self ..), List.findSome?_cons]
    cases e a with
    | some r => rfl
    | none => simp only [Option.bind_some]; exact foldO_find e l fun b hb => h b (List.mem_cons_of_mem _ hb)
/-- a loop over a list, with exits, as a walk -/
theorem loop_walk {α β R ρ S : Type} {step : S → Option (S ⊕ R)} (l : List α) (enc : Nat → β → S) (cs : β → α → Option (β ⊕ ρ)) (fin : β → R) (ex : ρ → R) {n : Nat}
    (h : ∀ i x b, l[i]? = some x → step (enc i b) = (cs b x).bind fun y => match y with | .inl b' => some (.inl (enc (i + 1) b')) | .inr r => some (.inr (ex r)))
    (hd : ∀ b, step (enc l.length b) = some (.inr (fin b))) (hn : l.length < n) (b0 : β) : loopO n step (enc 0 b0) = (foldO cs b0 l).bind fun y => match y with | .inl b => some (fin b) | .inr r => some (ex r) := by
  have key : ∀ (k i : Nat) (b : β) (n : Nat), i + k = l.length → k < n → loopO n step (enc i b) = (foldO cs b (l.drop i)).bind fun y => match y with | .inl b => some (fin b) | .inr r => some (ex r) := by
    intro k
    induction k with
    | zero =>
      intro i b n hi hn
      have e : i = l.length := by omega
      subst e
      rw [List.drop_length, loop_done (hd b) hn]; rfl
    | succ k ih =>
      intro i b n hi hn
      obtain ⟨m, rfl⟩ : ∃ k, n = k + 1 := ⟨n - 1, by omega⟩
      have hlt : i < l.length := by omega
      rw [loopO_succ, h i l[i] b (List.getElem?_eq_getElem hlt), List.drop_eq_getElem_cons hlt, foldO]
      cases cs b l[i] with
      | none => rfl
      | some y => cases y with
        | inl b' => simp only [Option.bind_some]; exact ih (i + 1) b' m (by omega) (by omega)
        | inr r => rfl
  have := key l.length 0 b0 n (by omega) hn
  rwa [List.drop_zero] at this
/-- a walk that is left at one thing, and takes down another -/
theorem foldO_two {σ ρ α : Type} {cs : σ → α → Option (σ ⊕ ρ)} (a b : α → Bool) (r : ρ) (v : σ) : ∀ (l : List α) (s : σ), (∀ s x, x ∈ l → cs s x = some (bif a x then .inr r else .inl (bif b x then v else s))) → foldO cs s l = some (bif l.any a then .inr r else .inl (bif l.any b then v else s))
  | [], _, _ => rfl
  | x :: l, s, h => by
    rw [foldO, h s x (List.mem_cons_self ..), List.any_cons, List.any_cons]
    cases a x with
    | true => rfl
    | false =>
      simp only [cond_false, Option.bind_some, Bool.false_or]
      rw [foldO_two a b r v l _ fun s y hy => h s y (List.mem_cons_of_mem _ hy)]
      cases b x <;> cases l.any b <;> rfl

/-! ### Euclid -/
theorem loop_gcd {step : Int × Int → Option ((Int × Int) ⊕ Int)} (h0 : ∀ a, step (a, 0) = some (.inr a)) (h : ∀ a b, b ≠ 0 → step (a, b) = some (.inl (b, a.tmod b))) : ∀ (y x n : Nat), y < n → loopO n step ((x : Int), (y : Int)) = some ((Nat.gcd x y : Nat) : Int) := by
  intro y
  induction y using Nat.strongRecOn with
  | _ y ih =>
    intro x n hn
    obtain ⟨m, rfl⟩ : ∃ k, n = k + 1 := ⟨n - 1, by omega⟩
    rw [loopO_succ]
    by_cases hy : y = 0
    · subst hy
      have := h0 (x : Int)
      simp only [Int.natCast_zero] at *
      rw [this]; simp
    · rw [h _ _ (by omega)]
      simp only
      rw [← Int.ofNat_tmod]
      have hlt := Nat.mod_lt x (Nat.pos_of_ne_zero hy)
      rw [ih (x % y) hlt y m (by omega)]
      rw [Nat.gcd_comm x y, Nat.gcd_rec y x, Nat.gcd_comm]

/-! ### products in bounds -/
theorem mul_in {x y A C : Int} (h1 : 0 ≤ x) (h2 : x ≤ A) (h3 : 0 ≤ y) (h4 : y ≤ C) : 0 ≤ x * y ∧ x * y ≤ A * C := by
  refine ⟨Int.mul_nonneg h1 h3, ?_⟩
  have a := Int.mul_le_mul_of_nonneg_right h2 h3
  have b := Int.mul_le_mul_of_nonneg_left h4 (show 0 ≤ A by omega)
  omega
theorem mul_abs {x y A C : Int} (h1 : -A ≤ x) (h2 : x ≤ A) (h3 : 0 ≤ y) (h4 : y ≤ C) : -(A * C) ≤ x * y ∧ x * y ≤ A * C := by
  have hA : 0 ≤ A := by omega
  have a := Int.mul_le_mul_of_nonneg_right h2 h3
  have a' := Int.mul_le_mul_of_nonneg_right h1 h3
  have b := Int.mul_le_mul_of_nonneg_left h4 hA
  rw [Int.neg_mul] at a'
  omega
theorem geti_some {α : Type} {l : List α} {i : Int} {x : α} (h : geti l i = some x) : 0 ≤ i ∧ i < l.length ∧ l[i.toNat]? = some x := by
  unfold geti at h
  split at h
  · rename_i h0
    have := (List.getElem?_eq_some_iff.1 h).1
    exact ⟨h0, by omega, h⟩
  · cases h
end Go.Dec
