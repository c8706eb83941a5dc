/-
  Plain facts on more stock, more reach, more truths. No program in sight.
-/
import Derived.Test.YtooankffknoomaaWorks2
namespace Go.Proofs.Ytooankffknoomaa
open Go Go.RowKit Go.Dec
set_option linter.unusedVariables false

theorem span_mono {α : Type} {l : List α} {f g : α → Int} (hne : l ≠ []) (h : ∀ x ∈ l, f x ≤ g x) : (spanOf (l.map f)).Low ≤ (spanOf (l.map g)).Low ∧ (spanOf (l.map f)).High ≤ (spanOf (l.map g)).High := by
  have k1 := span_in (l := l.map f) (by simpa using hne)
  have k2 := span_in (l := l.map g) (by simpa using hne)
  obtain ⟨x, hx, ex⟩ := List.mem_map.1 k2.1
  obtain ⟨y, hy, ey⟩ := List.mem_map.1 k1.2
  have a1 := span_mem (a := f x) (l := l.map f) (List.mem_map.2 ⟨x, hx, rfl⟩)
  have a2 := span_mem (a := g y) (l := l.map g) (List.mem_map.2 ⟨y, hy, rfl⟩)
  have a3 := h x hx
  have a4 := h y hy
  omega
/-- fewer truths, narrower spans -/
theorem span_sub {l m : List Int} (hne : l ≠ []) (h : ∀ x ∈ l, x ∈ m) : (spanOf m).Low ≤ (spanOf l).Low ∧ (spanOf l).High ≤ (spanOf m).High := by
  have k := span_in hne
  exact ⟨(span_mem (h _ k.1)).1, (span_mem (h _ k.2)).2⟩
theorem trade_mono (t : Tour) : ∀ (l : List (Int × Int)) (s s' : Int × Int), (∀ al ∈ l, 0 ≤ (fairAt t al.1).Price) → s.1 ≤ s'.1 → s.2 ≤ s'.2 → (l.foldl (tradeStep t) s).1 ≤ (l.foldl (tradeStep t) s').1 ∧ (l.foldl (tradeStep t) s).2 ≤ (l.foldl (tradeStep t) s').2
  | [], s, s', _, h1, h2 => ⟨h1, h2⟩
  | al :: l, s, s', hp, h1, h2 => by
    simp only [List.foldl_cons]
    have h0 := hp al (List.mem_cons_self ..)
    have hm : min s.2 (at' (fairAt t al.1).Sells al.2) ≤ min s'.2 (at' (fairAt t al.1).Sells al.2) := by omega
    have hmul := Int.mul_le_mul_of_nonneg_left hm h0
    exact trade_mono t l _ _ (fun x hx => hp x (List.mem_cons_of_mem _ hx)) (by simp only [tradeStep]; omega) (by simp only [tradeStep]; omega)
theorem fair_price {t : Tour} (ho : okTour t = true) {route levels : List Int} (hr : isRt t route) : ∀ al ∈ route.zip levels, 0 ≤ (fairAt t al.1).Price := fun al h => by
  have := hr.2 al.1 (List.of_mem_zip (a := al.1) (b := al.2) h).1
  exact (fairAt_ok ho this.1 this.2).2.1.1
theorem okNext_mono {s s' : Int} (h : s ≤ s') {p : List Int} {x : Int} (hk : okNext s p x = true) : okNext s' p x = true := by
  unfold okNext at hk ⊢
  cases hp : p.getLast? with
  | none => rfl
  | some y =>
    rw [hp] at hk
    dsimp only at hk ⊢
    rw [wi_t] at hk ⊢
    omega
theorem rowOk_mono {most : Nat} {s s' : Int} (h : s ≤ s') : ∀ (q p : List Int), rowOk most s p q → rowOk most s' p q
  | [], _, _ => trivial
  | x :: q, p, ⟨h1, h2, h3⟩ => ⟨h1, okNext_mono h h2, rowOk_mono h q _ h3⟩
theorem ext_mono {most : Nat} {s s' : Int} (h : s ≤ s') {k : Nat} {p r : List Int} (hr : r ∈ ext most s k p) : r ∈ ext most s' k p := by
  obtain ⟨q, h1, h2, h3⟩ := (mem_ext k p r).1 hr
  exact (mem_ext k p r).2 ⟨q, h1, h2, rowOk_mono h q p h3⟩
/-- as many truths, or more -/
theorem ext_sub {most : Nat} {s s' : Int} (h : s ≤ s') : ∀ (k : Nat) (p : List Int), (ext most s k p).Sublist (ext most s' k p)
  | 0, p => by simp [ext]
  | k + 1, p => by
    simp only [ext]
    have key : ∀ l : List Int, (l.flatMap fun x => if okNext s p x = true then ext most s k (p ++ [x]) else []).Sublist (l.flatMap fun x => if okNext s' p x = true then ext most s' k (p ++ [x]) else []) := by
      intro l
      induction l with
      | nil => simp
      | cons a l ih =>
        simp only [List.flatMap_cons]
        refine List.Sublist.append ?_ ih
        by_cases ha : okNext s p a = true
        · rw [if_pos ha, if_pos (okNext_mono h ha)]; exact ext_sub h k _
        · rw [if_neg ha]; exact List.nil_sublist _
    exact key _
end Go.Proofs.Ytooankffknoomaa
