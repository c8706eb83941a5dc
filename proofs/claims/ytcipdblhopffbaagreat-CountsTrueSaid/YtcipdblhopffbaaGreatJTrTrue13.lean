/-
  CountsTrue holds of every input that can be given, without a condition.
-/
import Derived.Test.YtcipdblhopffbaaGreatJTrTrue12
import Derived.JoinedCond
section
namespace Go.Proofs.YtcipdblhopffbaaGreat
open Go Go.RowKit Go.Dec Go.ChangeShapes Go.WideShapes Go.ChangeAt
set_option linter.unusedVariables false
theorem cl_laidOut : laidOutB Tryz.prog = true := by kernel_rfl
theorem cl_own : ownKnob Tryz.prog.godebug = none := by kernel_rfl
set_option maxRecDepth 100000 in
set_option maxHeartbeats 1000000 in
theorem countsTrue_contract (law : ∀ (x0 : Run) (x1 : law13_Real) (x2 : law13_Ask), W_Run x0 → W_law13_Real x1 → W_law13_Ask x2 → ∃ n, F_law13_CountsTrue n x0 x1 x2 = some true)
    (T : Type) (enc : TypeId × Value → T) (W : World) (base : Nat) (args : Array Value) (ds gs : List (DataW T)) (before : List MemPlace)
    (hval : ∀ (j : Nat) t v, Tryz.f4.params[j]? = some t → args[j]? = some v → Value.okWide Tryz.prog W .any base t v)
    (hW : DataW.Whole enc Tryz.prog Tryz.f4.params.toList Rows.countsTrueSpec.vars false W args.toList ds gs before) :
    Calls Tryz.prog 4 args W fun e W' => ∃ v, e = .returned v ∧ Rows.countsTrueSpec.post enc Tryz.prog Tryz.f4 false true false false W args v W' := by
  have hW' := hW
  obtain ⟨p, q, hA0, hV, rfl, hfz, hnd⟩ := hW
  have hA : DataW.TrodAll enc Tryz.prog W 0 (fun _ => true) true Tryz.f4.params.toList args.toList ds p := hA0
  rw [Tryz.params4] at hA hval
  obtain ⟨v0, vs0, d0, ds0, p0, q0, hargs, rfl, rfl, h0, r0⟩ := trodAll_cons hA
  obtain ⟨v1, vs1, d1, ds1, p1, q1, rfl, rfl, rfl, h1, r1⟩ := trodAll_cons r0
  obtain ⟨v2, vs2, d2, ds2, p2, q2, rfl, rfl, rfl, h2, r2⟩ := trodAll_cons r1
  obtain ⟨rfl, rfl, rfl⟩ := trodAll_nil r2
  obtain rfl : args = #[v0, v1, v2] := by rw [← Array.toArray_toList (xs := args), hargs]
  obtain ⟨rfl, rfl⟩ := trodVars_none hV
  obtain ⟨cs0, rfl, hs0⟩ := okWide_struct Tryz.underlying34 (hval 0 34 v0 rfl rfl)
  obtain ⟨cs1, rfl, hs1⟩ := okWide_struct Tryz.underlying52 (hval 1 52 v1 rfl rfl)
  obtain ⟨cs2, rfl, hs2⟩ := okWide_struct Tryz.underlying54 (hval 2 54 v2 rfl rfl)
  have k0 := h0
  obtain ⟨f0, e0⟩ := h0
  have k1 := h1
  obtain ⟨f1, e1⟩ := h1
  have k2 := h2
  obtain ⟨f2, e2⟩ := h2
  obtain ⟨_, x0, r0, w0⟩ := o_Run _ _ _ _ _ _ _ e0
  obtain ⟨_, x1, r1, w1⟩ := o_law13_Real _ _ _ _ _ _ _ e1
  obtain ⟨_, x2, r2, w2⟩ := o_law13_Ask _ _ _ _ _ _ _ e2
  obtain ⟨n, hn⟩ := law x0 x1 x2 w0 w1 w2
  obtain ⟨u0_0, u0_1, u0_2, u0_3, u0_4, q0, s0_0, s0_1, s0_2, s0_3, s0_4⟩ := r0
  have q0 : cs0.toList = _ := q0
  obtain rfl : cs0 = _ := by rw [← Array.toArray_toList (xs := cs0), q0]
  obtain ⟨u1_0, u1_1, q1, s1_0, s1_1⟩ := r1
  have q1 : cs1.toList = _ := q1
  obtain rfl : cs1 = _ := by rw [← Array.toArray_toList (xs := cs1), q1]
  have q2 : cs2.toList = _ := r2
  obtain rfl : cs2 = _ := by rw [← Array.toArray_toList (xs := cs2), q2]
  have hlt : ∀ x ∈ p0 ++ (p1 ++ (p2 ++ [])), x.block < W.heap.size := fun x hx => hW'.lt x (by simpa using hx)
  refine ((c_law13_CountsTrue n (hw W) x0 u0_0 s0_0 u0_1 s0_1 u0_2 s0_2 u0_3 s0_3 u0_4 s0_4 x1 u1_0 s1_0 u1_1 s1_1 x2 true hn) W (hw_le W)).mono fun e W' ⟨he, hb0⟩ => ?_
  have hb := hb0.plain rfl
  subst he
  refine ⟨_, rfl, _, _, _, [], p0 ++ (p1 ++ (p2 ++ [])), [], hW', trodAll_cons_mk (shut_bool Tryz.underlying4 _) trodAll_mk0, ?_, rfl, hb.frame _, fun h => by cases h⟩
  exact trodAll_cons_mk (Below.trod cl_laidOut (by kernel_rfl) (of_decide_eq_true (by kernel_rfl)) k0 hb (fun x hx => hlt x (List.mem_append_left _ hx))) (trodAll_cons_mk (Below.trod cl_laidOut (by kernel_rfl) (of_decide_eq_true (by kernel_rfl)) k1 hb (fun x hx => hlt x (List.mem_append_right _ (List.mem_append_left _ hx)))) (trodAll_cons_mk (Below.trod cl_laidOut (by kernel_rfl) (of_decide_eq_true (by kernel_rfl)) k2 hb (fun x hx => hlt x (List.mem_append_right _ (List.mem_append_right _ (List.mem_append_left _ hx))))) trodAll_mk0))
set_option maxRecDepth 100000 in
theorem countsTrue_lifted (law : ∀ (x0 : Run) (x1 : law13_Real) (x2 : law13_Ask), W_Run x0 → W_law13_Real x1 → W_law13_Ask x2 → ∃ n, F_law13_CountsTrue n x0 x1 x2 = some true)
    (os : Os) (started : os.Started) (H : Type) (enc : TypeId × Value → H) :
    ReturnsInHanded {} Tryz.checked os 4 .any (Rows.countsTrueSpec.pre6 enc Tryz.prog Tryz.f4 Rows.countsTrueRow.domain false) (Rows.countsTrueSpec.post enc Tryz.prog Tryz.f4 false true false false) := by
  refine returnsInHanded_of_change (C := Tryz.checked) cl_own started (by kernel_rfl) Tryz.func4
    (ChangeSpec.witness6 (enc := enc) (C := Tryz.checked) false ⟨#[], #[.agg #[.slice none 0 0, .int .i64 0, .int .i64 0, .int .i64 0, .int .i64 0, .int .i64 0, .int .i64 0, .slice none 0 0, .slice none 0 0, .slice none 0 0, .slice none 0 0, .int .i64 0], .agg #[.slice none 0 0, .int .i64 0, .int .i64 0, .slice none 0 0], .agg #[.int .i64 0, .int .i64 0, .int .i64 0]], []⟩ 8 (by kernel_rfl) (by kernel_rfl) (by kernel_rfl) (by kernel_rfl)) ?_
  intro W base args ds gs before hval hW _ _
  exact countsTrue_contract law H enc W base args ds gs before hval hW
theorem countsTrue_holds (law : ∀ (x0 : Run) (x1 : law13_Real) (x2 : law13_Ask), W_Run x0 → W_law13_Real x1 → W_law13_Ask x2 → ∃ n, F_law13_CountsTrue n x0 x1 x2 = some true) : Rows.CountsTrueSaid :=
  OpenClaim.holds_of_wide 4 Tryz.f4 rfl rfl rfl rfl rfl rfl rfl ⟨rfl, rfl, rfl, rfl, rfl⟩ rfl rfl rfl rfl rfl (by kernel_rfl) Tryz.func4 (by kernel_rfl)
    (of_decide_eq_true (by kernel_rfl)) (by unfold Func.isWrapper; first | (rw [if_pos (by decide +kernel)]; kernel_rfl) | (rw [if_neg (by decide +kernel)]; exact ⟨rfl, rfl⟩))
    (fun os started H enc _ => countsTrue_lifted law os started H enc)
theorem countsTrue_proved : Rows.CountsTrueSaid := countsTrue_holds law_CountsTrue
end Go.Proofs.YtcipdblhopffbaaGreat
end
