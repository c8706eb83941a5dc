/-
  The plain law of GustsLoads.
-/
import Derived.Test.YtcpnnfdhafbemaaPgf
import Derived.Test.YtcpnnfdhafbemaaOpn
import Derived.Test.YtcpnnfdhafbemaaGGustsLoads
namespace Go.Proofs.Ytcpnnfdhafbemaa
open Go Go.RowKit Go.Dec
theorem goes_len (d : Canopy) (g : Gust) : (goesT d g).1.length ≤ 10000 ∧ (goesT d g).2.1.length ≤ 10000 := by
  unfold goesT
  split
  · rename_i h
    have hr := (askG_ok.1 h).1.r
    have h1 := listS_len hr.2 (sureP d g)
    have h2 := listS_len hr.2 (mayP d g)
    exact ⟨by simp only; omega, by simp only; omega⟩
  · simp
theorem loads_len (d : Canopy) (g : Gust) : (loadsT d g).1.length ≤ 10000 := by
  unfold loadsT
  split
  · rename_i h
    have hr := (askG_ok.1 h).1.r
    simp; omega
  · simp
theorem law_GustsLoads (d : Canopy) (g : Gust) (_ : W_Canopy d) (_ : W_Gust g) : ∃ n, F_law05_GustsLoads n d g = some true := by
  have hn : 100000000 ≤ 100000000 := Nat.le_refl _
  refine ⟨100000000, ?_⟩
  have hw := works_any hn
  simp only [F_law05_GustsLoads]
  rcases p_Far hn d with h | ⟨h, hs, h1, h2, h3⟩
  · simp [h, hw]
  · simp only [h, Option.bind_some, Bool.false_eq_true, if_false, p_Copy05 hn hs, p_gCheck hn hs, p_Check05 hn hs, bne_self_eq_false, p_Lift hn hs, p_Lift05 hn hs, p_Loads hn hs, p_Loads05 hn hs, p_Goes hn hs, p_Goes05 hn hs, beq_self_eq_true, Bool.and_self, Bool.true_and, if_true, p_sameSpans hn _ (loads_len d g), p_sameInts hn _ (goes_len d g).1, p_sameInts hn _ (goes_len d g).2, p_sameSpans hn d.Ribs (by omega), p_sameInts hn d.Shares (by omega), hw]
end Go.Proofs.Ytcpnnfdhafbemaa
