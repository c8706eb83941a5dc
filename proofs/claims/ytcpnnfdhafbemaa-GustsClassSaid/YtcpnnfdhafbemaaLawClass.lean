/-
  The plain law of GustsClass.
-/
import Derived.Test.YtcpnnfdhafbemaaPgf
import Derived.Test.YtcpnnfdhafbemaaOpn
import Derived.Test.YtcpnnfdhafbemaaGGustsClass
namespace Go.Proofs.Ytcpnnfdhafbemaa
open Go Go.RowKit Go.Dec
theorem first_len (d : Canopy) (l : List Gust) : (firstG d l).2.1.length ≤ 10000 := by
  unfold firstG
  split
  · rename_i h
    have hr := (askG_ok.1 h).1.r
    cases hc : (List.range l.length).findSome? (firstE d l) with
    | none => simp
    | some r =>
      obtain ⟨i, _, hi⟩ := List.exists_of_findSome?_eq_some hc
      unfold firstE at hi
      cases hg : l[i]? with
      | none => rw [hg] at hi; simp at hi
      | some g =>
        rw [hg] at hi
        simp only [Option.bind_some] at hi
        split at hi
        · simp at hi
        · simp only [Option.some.injEq] at hi
          rw [← hi]
          have := listS_len hr.2 (firstP d g)
          simp only; omega
  · simp
theorem weak_len (d : Canopy) (l : List Gust) : (weakT d l).1.length ≤ 10000 := by
  unfold weakT
  split
  · rename_i h
    have hr := (askG_ok.1 h).1.r
    have h1 := listS_len hr.2 (weakP d l)
    simp only; omega
  · simp
theorem law_GustsClass (d : Canopy) (class_ : List Gust) (at_ : Int) (_ : W_Canopy d) (_ : ((∀ z0 ∈ class_, W_Gust z0) ∧ class_.length ≤ 9223372036854775807)) (_ : I64 at_) : ∃ n, F_law05_GustsClass n d class_ at_ = some true := by
  have hn : 100000000 ≤ 100000000 := Nat.le_refl _
  refine ⟨100000000, ?_⟩
  have hw := works_any hn
  simp only [F_law05_GustsClass]
  rcases p_Far hn d with h | ⟨h, hs, h1, h2, h3⟩
  · simp [h, hw]
  · by_cases hl : class_.length ≤ 40
    · have hl' : decide (40 < (class_.length : Int)) = false := by simp; omega
      have hlm : lim (([] : List Gust) ++ class_) = some class_ := by rw [List.nil_append]; exact lim_ok (by omega)
      have hl2 : class_.length ≤ 1000 := by omega
      simp only [h, hl', hlm, Option.bind_some, Bool.or_self, Bool.false_eq_true, if_false, p_Copy05 hn hs, p_Stands hn hs hl2, p_Stands05 hn hs hl2, p_First hn hs hl2, p_First05 hn hs hl2, p_Most hn hs, p_Most05 hn hs, p_Weak hn hs hl2, p_Weak05 hn hs hl2, beq_self_eq_true, Bool.and_self, Bool.true_and, if_true, p_sameInts hn _ (first_len d class_), p_sameInts hn _ (weak_len d class_), hw]
    · have hl' : decide (40 < (class_.length : Int)) = true := by simp; omega
      simp only [h, hl', Option.bind_some, Bool.false_or, if_true, hw]
end Go.Proofs.Ytcpnnfdhafbemaa
