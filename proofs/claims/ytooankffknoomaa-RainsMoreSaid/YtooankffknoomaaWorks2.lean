/-
  The example of the chapter with whatever fuel is enough; long rows.
-/
import Derived.Test.YtooankffknoomaaWorks
namespace Go.Proofs.Ytooankffknoomaa
open Go Go.RowKit Go.Dec
set_option linter.unusedVariables false
def exT : Tour := Tour.mk 3 2 [(Rain.mk 0 (Span.mk 2 3)), (Rain.mk 1 (Span.mk 0 1)), (Rain.mk 2 (Span.mk 0 0)), (Rain.mk 2 (Span.mk 3 3))] 1 [(Fair.mk 10 [0, 2, 4, 6]), (Fair.mk 20 [0, 1, 2, 3]), (Fair.mk 5 [6, 6, 6, 6])] 1 7
theorem exT_sm : Sm exT := ⟨by decide, by decide, by decide⟩
set_option maxRecDepth 1000000 in
theorem ex1 : manyT exT = (5, 0) := by kernel_rfl
set_option maxRecDepth 1000000 in
theorem ex2 : endsT exT [1, 1, 2] (fun s => s.1) = (⟨65, 95⟩, 0) := by kernel_rfl
set_option maxRecDepth 1000000 in
theorem ex3 : ((bestT exT fun s => s.Low).1, (bestT exT fun s => s.Low).2.2) = (65, 0) := by kernel_rfl
set_option maxRecDepth 1000000 in
theorem ex4 : levelsT exT 2 = ([0, 3], 0) := by kernel_rfl
theorem works_any {n : Nat} (hn : 1000000 ≤ n) : F_law11_works n = some true := by
  simp only [F_law11_works, F_law11_Example, Option.bind_some]
  rw [show (Tour.mk 3 2 [(Rain.mk 0 (Span.mk 2 3)), (Rain.mk 1 (Span.mk 0 1)), (Rain.mk 2 (Span.mk 0 0)), (Rain.mk 2 (Span.mk 3 3))] 1 [(Fair.mk 10 [0, 2, 4, 6]), (Fair.mk 20 [0, 1, 2, 3]), (Fair.mk 5 [6, 6, 6, 6])] 1 7) = exT from rfl]
  rw [p_Many hn exT_sm, p_Takes hn exT_sm (by simp), p_Best hn exT_sm, p_Levels hn exT_sm, ex1, ex2, ex3, ex4]
  simp only [Option.bind_some, p_sameInts hn [0, 3] (by simp)]
  rfl
theorem p_isRowBig {n : Nat} {l : List Int} {many most step : Int} (hn : l.length < n) (hl : l.length ≤ 9223372036854775807) : F_ref11_isRow n l many most step = some (isRowB l many most step) := by
  have := loop_all_any (step := F_ref11_isRow_s1 n l most step) l.length (chk l most step) false (n := n) (fun i hi => by
    simp only [F_ref11_isRow_s1, geti_nat, getD_lt hi, Option.bind_some, p_within11, lt_nat, hi, decide_true, if_true, w64_nat' hi hl, chk]
    cases wi (l.getD i 0) 0 most with
    | false => rfl
    | true =>
      cases i with
      | zero => rfl
      | succ i =>
        have e : w64 (((i + 1 : Nat) : Int) - 1) = (i : Int) := by rw [w64_id] <;> omega
        have e2 : decide (0 < ((i + 1 : Nat) : Int)) = true := by simp
        rw [e, geti_nat, getD_lt (show i < l.length by omega), e2]
        simp only [Bool.not_true, Bool.false_eq_true, if_false, if_true, Option.bind_some, p_within11, Nat.add_sub_cancel, Bool.true_and]
        have e3 : decide (i + 1 = 0) = false := by simp
        rw [e3]
        cases wi (w64 (l.getD (i + 1) 0 - l.getD i 0)) (w64 (-step)) step <;> rfl) (by simp [F_ref11_isRow_s1]) hn
  simp only [F_ref11_isRow, this, Option.bind_some, isRowB]
  cases (List.range l.length).all (chk l most step) <;> rfl
theorem p_IsRouteBig {n : Nat} {t : Tour} {l : List Int} (hn : l.length < n) (hl : l.length ≤ 9223372036854775807) : F_ref11_IsRoute n t l = some (isRouteT t l) := by
  simp only [F_ref11_IsRoute, p_isRowBig hn hl, Option.bind_some, isRouteT]
end Go.Proofs.Ytooankffknoomaa
