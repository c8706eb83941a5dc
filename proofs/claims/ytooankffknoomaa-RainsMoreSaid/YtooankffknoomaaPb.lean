/-
  The plain layer of rains and its reference: the rows, listed and walked.
-/
import Derived.Test.YtooankffknoomaaPa
namespace Go.Proofs.Ytooankffknoomaa
open Go Go.RowKit Go.Dec
set_option linter.unusedVariables false

def nums (i k : Nat) : List Int := (List.range' i k).map (fun j : Nat => (j : Int))
def okNext (step : Int) (p : List Int) (x : Int) : Bool := match p.getLast? with
  | none => true
  | some y => wi (x - y) (-step) step
/-- all rows that begin with p and go on for k days -/
def ext (most : Nat) (step : Int) : Nat → List Int → List (List Int)
  | 0, p => [p]
  | k + 1, p => (nums 0 (most + 1)).flatMap fun x => if okNext step p x = true then ext most step k (p ++ [x]) else []

theorem nums_get {i k j : Nat} {x : Int} (h : (nums i k)[j]? = some x) : x = ((i + j : Nat) : Int) ∧ j < k := by
  unfold nums at h
  rw [List.getElem?_map] at h
  have hj : j < k := by
    rcases Nat.lt_or_ge j k with h' | h'
    · exact h'
    · rw [List.getElem?_eq_none (by simpa using h')] at h; cases h
  rw [List.getElem?_range' hj] at h
  simp at h
  exact ⟨by omega, hj⟩
theorem nums_len (i k : Nat) : (nums i k).length = k := by simp [nums]
theorem nums_mem {i k : Nat} {x : Int} : x ∈ nums i k ↔ (i : Int) ≤ x ∧ x < i + k := by
  simp only [nums, List.mem_map, List.mem_range'_1]
  constructor
  · rintro ⟨j, h, rfl⟩; omega
  · intro h; exact ⟨x.toNat, by omega, by omega⟩
theorem flatMap_len {α β : Type} (f : α → List β) (m : Nat) : ∀ (l : List α), (∀ x ∈ l, (f x).length ≤ m) → (l.flatMap f).length ≤ l.length * m
  | [], _ => by simp
  | a :: l, h => by
    rw [List.flatMap_cons, List.length_append, List.length_cons, Nat.succ_mul]
    have h1 := h a (List.mem_cons_self ..)
    have h2 := flatMap_len f m l (fun x hx => h x (List.mem_cons_of_mem _ hx))
    omega
theorem ext_len {most : Nat} (hm : most ≤ 3) (step : Int) : ∀ (k : Nat) (p : List Int), (ext most step k p).length ≤ 4 ^ k
  | 0, p => by simp [ext]
  | k + 1, p => by
    refine Nat.le_trans (flatMap_len _ (4 ^ k) _ fun x _ => ?_) ?_
    · split
      · exact ext_len hm step k _
      · simp
    · rw [nums_len, Nat.pow_succ, Nat.mul_comm (4 ^ k)]
      exact Nat.mul_le_mul_right _ (by omega)
theorem foldl_flatMap {α β : Type} (c : α → Bool) (f : α → List β) : ∀ (l : List α) (out : List β), l.foldl (fun o x => if c x = true then o ++ f x else o) out = out ++ l.flatMap (fun x => if c x = true then f x else [])
  | [], out => by simp
  | a :: l, out => by
    rw [List.foldl_cons, foldl_flatMap c f l, List.flatMap_cons]
    cases c a <;> simp
theorem ext_mem {most : Nat} {step : Int} : ∀ (k : Nat) (p r : List Int), r ∈ ext most step k p → (∀ x ∈ p, 0 ≤ x ∧ x ≤ most) → r.length = p.length + k ∧ (∀ x ∈ r, 0 ≤ x ∧ x ≤ most)
  | 0, p, r, h, hp => by
    simp [ext] at h; subst h; exact ⟨rfl, hp⟩
  | k + 1, p, r, h, hp => by
    simp only [ext, List.mem_flatMap] at h
    obtain ⟨x, hx, hr⟩ := h
    split at hr
    · have hx' := nums_mem.1 hx
      obtain ⟨h1, h2⟩ := ext_mem k (p ++ [x]) r hr (fun y hy => by
        rcases List.mem_append.1 hy with hy | hy
        · exact hp y hy
        · simp at hy; subst hy; omega)
      refine ⟨by simp at h1; omega, h2⟩
    · cases hr

theorem next_eq (n : Nat) {p : List Int} {step x : Int} {most : Nat} (hm : most ≤ 3) (hst : 0 ≤ step ∧ step ≤ 4) (hp : ∀ x ∈ p, 0 ≤ x ∧ x ≤ most) (hx : 0 ≤ x ∧ x ≤ most) (hl : p.length ≤ 6) :
    (if decide (0 < (p.length : Int)) = true then ((geti p (w64 ((p.length : Int) - 1))).bind fun y263 => (F_ref11_within n (w64 (x - y263)) (w64 (-step)) step).bind fun y268 => some (!y268)) else (some false) : Option Bool) = some (!okNext step p x) := by
  rcases List.eq_nil_or_concat p with rfl | ⟨q, y, h⟩
  · simp [okNext]
  · rw [List.concat_eq_append] at h
    subst h
    have hy := hp y (by simp)
    have hl' : (q ++ [y]).length = q.length + 1 := by simp
    rw [if_pos (by simp)]
    have e1 : w64 (((q ++ [y]).length : Int) - 1) = (q.length : Int) := by rw [w64_id] <;> omega
    rw [e1, geti_nat]
    have e2 : (q ++ [y])[q.length]? = some y := by simp
    rw [e2]
    simp only [Option.bind_some, p_within11, okNext, List.getLast?_concat]
    rw [w64_id (by omega) (by omega), w64_id (by omega) (by omega)]

theorem p_rows11 {most : Nat} {step many : Int} (hm : most ≤ 3) (hst : 0 ≤ step ∧ step ≤ 4) : ∀ (k n : Nat) (p : List Int), 999990 + k ≤ n → p.length + k ≤ 6 → ((p.length : Int) + k = many) → (∀ x ∈ p, 0 ≤ x ∧ x ≤ most) →
    F_ref11_rows n p many most step = some (ext most step k p) := by
  intro k
  induction k with
  | zero =>
    intro n p hn _ hl _
    obtain ⟨m, rfl⟩ : ∃ k, n = k + 1 := ⟨n - 1, by omega⟩
    rw [F_ref11_rows]
    simp only
    rw [if_pos (by simp; omega), ext]
  | succ k ih =>
    intro n p hn hk hl hp
    obtain ⟨m, rfl⟩ : ∃ k, n = k + 1 := ⟨n - 1, by omega⟩
    rw [F_ref11_rows]
    simp only
    rw [if_neg (by simp; omega)]
    have := loop_fold (step := F_ref11_rows_s1 m (F_ref11_rows m) p many most step) (nums 0 (most + 1)) (fun i out => ((i : Int), out)) (fun o x => if okNext step p x = true then o ++ ext most step k (p ++ [x]) else o) (fun o => o) (fun i o => o.length ≤ i * 4 ^ k) (n := m) ([] : List (List Int)) (by simp) (fun i x b hx hb => by
      obtain ⟨rfl, hi⟩ := nums_get hx
      simp only [Nat.zero_add]
      have h1 : (p ++ [((i : Nat) : Int)]).length = p.length + 1 := by simp
      have hrec : F_ref11_rows m (p ++ [((i : Nat) : Int)]) many most step = some (ext most step k (p ++ [((i : Nat) : Int)])) := ih m _ (by omega) (by omega) (by omega) (fun y hy => by
        rcases List.mem_append.1 hy with hy | hy
        · exact hp y hy
        · simp at hy; subst hy; omega)
      have hle := ext_len hm step k (p ++ [((i : Nat) : Int)])
      have hk4 : 4 ^ k ≤ 4 ^ 6 := Nat.pow_le_pow_right (by omega) (by omega)
      have hib : i * 4 ^ k ≤ 4 * 4 ^ 6 := Nat.mul_le_mul (by omega) hk4
      refine ⟨?_, ?_⟩
      · simp only [F_ref11_rows_s1]
        rw [if_pos (by simp; omega), next_eq m hm hst hp (by omega) (by omega)]
        simp only [Option.bind_some]
        cases okNext step p (i : Int) with
        | false => simp only [Bool.not_false, if_true, Bool.false_eq_true, if_false]; rw [w64_nat (by omega)]
        | true =>
          simp only [Bool.not_true, Bool.false_eq_true, if_false, if_true, List.nil_append]
          rw [lim_ok (by omega)]
          simp only [Option.bind_some]
          rw [lim_ok (by omega)]
          simp only [Option.bind_some, hrec]
          rw [lim_ok (by simp only [List.length_append]; omega), w64_nat (by omega)]
          rfl
      · split
        · rw [List.length_append, Nat.succ_mul]; omega
        · rw [Nat.succ_mul]; omega) (fun b hb => by
      rw [nums_len]
      simp [F_ref11_rows_s1]; omega) (by rw [nums_len]; omega)
    simp only [Int.natCast_zero] at this
    rw [this.1]
    simp only [Option.bind_some]
    rw [foldl_flatMap, List.nil_append, ext]

theorem take_set_succ {xs : List Int} {d : Nat} {v : Int} (h : d < xs.length) : (xs.set d v).take (d + 1) = xs.take d ++ [v] := by
  rw [List.take_add_one, List.take_set_of_le (Nat.le_refl _)]
  simp [List.getElem?_set, h]

theorem p_fill {σ ρ : Type} {most : Nat} {step : Int} (hm : most ≤ 3) (hst : 0 ≤ step ∧ step ≤ 4) (days : Nat) (hd : days ≤ 6) (cs : σ → List Int → Option (σ ⊕ ρ)) : ∀ (k n d : Nat) (xs : List Int) (s : σ) (y : σ ⊕ ρ), 999990 + k ≤ n → d + k = days → xs.length = days → (∀ x ∈ xs, 0 ≤ x ∧ x ≤ most) →
    foldO cs s (ext most step k (xs.take d)) = some y → ∃ xs', fill days most step cs n d xs s = some (y, xs') ∧ xs'.length = days ∧ xs'.take d = xs.take d ∧ (∀ x ∈ xs', 0 ≤ x ∧ x ≤ most) := by
  intro k
  induction k with
  | zero =>
    intro n d xs s y hn hk hl hx hf
    obtain ⟨m, rfl⟩ : ∃ k, n = k + 1 := ⟨n - 1, by omega⟩
    have hd' : d = days := by omega
    subst hd'
    rw [List.take_of_length_le (by omega)] at hf
    refine ⟨xs, ?_, hl, rfl, hx⟩
    rw [fill, if_pos (by simp)]
    simp only [ext, foldO] at hf
    cases hc : cs s xs with
    | none => rw [hc] at hf; cases hf
    | some z =>
      rw [hc] at hf
      cases z with
      | inl z => simp only [Option.bind_some] at hf; cases hf; rfl
      | inr z => simp only [Option.bind_some] at hf; cases hf; rfl
  | succ k ih =>
    intro n d xs s y hn hk hl hx hf
    obtain ⟨m, rfl⟩ : ∃ k, n = k + 1 := ⟨n - 1, by omega⟩
    rw [fill, if_neg (by simp; omega)]
    rw [ext] at hf
    have key : ∀ (j i : Nat) (r : Nat) (xs : List Int) (s : σ), i + j = most + 1 → j < r → xs.length = days → (∀ x ∈ xs, 0 ≤ x ∧ x ≤ most) →
        foldO cs s ((nums i j).flatMap fun x => if okNext step (xs.take d) x = true then ext most step k (xs.take d ++ [x]) else []) = some y →
        ∃ xs', loopO r (fillStep days most step d (fill days most step cs m)) ((i : Int), xs, s) = some (y, xs') ∧ xs'.length = days ∧ xs'.take d = xs.take d ∧ (∀ x ∈ xs', 0 ≤ x ∧ x ≤ most) := by
      intro j
      induction j with
      | zero =>
        intro i r xs s hi hr hl hx hf
        simp [nums, foldO] at hf
        refine ⟨xs, loop_done ?_ (by omega), hl, rfl, hx⟩
        have : i = most + 1 := by omega
        subst this
        simp only [fillStep]
        rw [w64_id (by omega) (by omega), if_neg (by simp), hf]
      | succ j ihj =>
        intro i r xs s hi hr hl hx hf
        obtain ⟨r', rfl⟩ : ∃ k, r = k + 1 := ⟨r - 1, by omega⟩
        have hcond : (if decide (0 < (d : Int)) = true then ((geti xs (w64 ((d : Int) - 1))).bind fun p => (F_rains_within 0 (w64 ((i : Int) - p)) (w64 (-step)) step).bind fun z => some (!z)) else some false : Option Bool) = some (!okNext step (xs.take d) (i : Int)) := by
          by_cases h0 : d = 0
          · subst h0; simp [okNext]
          · have hlt : d - 1 < xs.length := by omega
            have hget : xs[d - 1]? = some xs[d - 1] := List.getElem?_eq_getElem hlt
            have hb := hx _ (List.getElem_mem hlt)
            rw [if_pos (by simp; omega)]
            have e1 : w64 ((d : Int) - 1) = ((d - 1 : Nat) : Int) := by rw [w64_id] <;> omega
            have e2 : (xs.take d).getLast? = some xs[d - 1] := by
              rw [List.getLast?_eq_getElem?, List.length_take, List.getElem?_take, if_pos (by omega), ← hget]
              congr 1; omega
            rw [e1, geti_nat, hget]
            simp only [Option.bind_some, p_within, okNext, e2]
            rw [w64_id (by omega) (by omega), w64_id (by omega) (by omega)]
        have hnum : nums i (j + 1) = (i : Int) :: nums (i + 1) j := by simp [nums, List.range'_succ]
        rw [hnum, List.flatMap_cons, foldO_append] at hf
        rw [loopO_succ]
        have hstep : fillStep days most step d (fill days most step cs m) ((i : Int), xs, s) = (if okNext step (xs.take d) (i : Int) = true then ((seti xs d i).bind fun xs' => (fill days most step cs m (w64 ((d : Int) + 1)) xs' s).bind fun r => match r with
            | (.inl s', xs'') => some (.inl (w64 ((i : Int) + 1), xs'', s'))
            | (.inr e, xs'') => some (.inr (.inr e, xs''))) else some (.inl (w64 ((i : Int) + 1), xs, s))) := by
          simp only [fillStep]
          rw [w64_id (n := (most : Int) + 1) (by omega) (by omega), if_pos (by simp; omega), hcond]
          simp only [Option.bind_some]
          cases okNext step (xs.take d) (i : Int) <;> rfl
        rw [hstep]
        cases hok : okNext step (xs.take d) (i : Int) with
        | false =>
          rw [hok] at hf
          simp only [Bool.false_eq_true, if_false, foldO, Option.bind_some] at hf
          simp only [Bool.false_eq_true, if_false]
          rw [w64_nat (by omega)]
          exact ihj (i + 1) r' xs s (by omega) (by omega) hl hx hf
        | true =>
          rw [hok] at hf
          simp only [if_true] at hf
          simp only [if_true]
          have hseti : seti xs d i = some (xs.set d i) := by
            unfold seti; rw [if_pos (by omega)]; simp
          rw [hseti]
          simp only [Option.bind_some]
          rw [w64_nat (by omega)]
          have htake : (xs.set d (i : Int)).take (d + 1) = xs.take d ++ [(i : Int)] := take_set_succ (by omega)
          have hx' : ∀ x ∈ xs.set d (i : Int), 0 ≤ x ∧ x ≤ most := fun x h => by
            rcases List.mem_or_eq_of_mem_set h with h | h
            · exact hx x h
            · subst h; omega
          cases hz : foldO cs s (ext most step k (xs.take d ++ [(i : Int)])) with
          | none => rw [hz] at hf; cases hf
          | some z =>
            rw [hz] at hf
            obtain ⟨xs2, h1, h2, h3, h4⟩ := ih m (d + 1) (xs.set d i) s z (by omega) (by omega) (by simpa using hl) hx' (by rw [htake]; exact hz)
            rw [h1]
            have htk : xs2.take d = xs.take d := by
              have := congrArg (List.take d) h3
              rw [List.take_take, List.take_take, Nat.min_eq_left (by omega), List.take_set_of_le (Nat.le_refl _)] at this
              exact this
            cases z with
            | inl s' =>
              simp only [Option.bind_some] at hf ⊢
              rw [← htk] at hf
              obtain ⟨xs3, k1, k2, k3, k4⟩ := ihj (i + 1) r' xs2 s' (by omega) (by omega) h2 h4 hf
              rw [w64_nat (by omega)]
              exact ⟨xs3, k1, k2, by rw [k3, htk], k4⟩
            | inr e =>
              simp only [Option.bind_some] at hf ⊢
              cases hf
              exact ⟨xs2, rfl, h2, htk, h4⟩
    exact key (most + 1) 0 m xs s (by omega) (by omega) hl hx hf

/-- the iterator walks over the listed rows -/
theorem p_iter {σ ρ : Type} {n : Nat} (hn : 1000000 ≤ n) {most : Nat} {step : Int} (hm : most ≤ 3) (hst : 0 ≤ step ∧ step ≤ 4) (days : Nat) (hd : days ≤ 6) (cs : σ → List Int → Option (σ ⊕ ρ)) (s : σ) (y : σ ⊕ ρ) (h : foldO cs s (ext most step days []) = some y) :
    I_rains_rows_1 n days most step cs s = some y := by
  obtain ⟨xs', h1, _⟩ := p_fill hm hst days hd cs days n 0 (List.replicate days 0) s y (by omega) (by omega) (by simp) (fun x hx => by
    have := List.eq_of_mem_replicate hx; omega) (by simpa using h)
  unfold I_rains_rows_1
  rw [if_pos (by omega)]
  simp only [Int.natCast_zero] at h1
  rw [Int.toNat_natCast, h1]
  rfl
end Go.Proofs.Ytooankffknoomaa
