/-
  GustsTrue holds of every input that can be given, without a condition.
-/
import Derived.Test.YtcpnnfdhafbemaaLawTrue
import Derived.Test.YtcpnnfdhafbemaaOpn
import Derived.OpenShut
import Derived.JoinedCond
import Derived.ProofKit
import Derived.WalkKit
namespace Go.Proofs.Ytcpnnfdhafbemaa
open Go Go.RowKit Go.Dec Go.ChangeShapes Go.WideShapes Go.ChangeAt
set_option linter.unusedVariables false
theorem cl_laidOut : laidOutB Try.prog = true := by kernel_rfl
theorem cl_own : ownKnob Try.prog.godebug = none := by kernel_rfl

set_option maxRecDepth 100000 in
set_option maxHeartbeats 1000000 in
theorem gustsTrue_contract (law : ∀ (x0 : Canopy) (x1 : List Gust) (x2 : law05_Real), W_Canopy x0 → ((∀ z0 ∈ x1, W_Gust z0) ∧ x1.length ≤ 9223372036854775807) → W_law05_Real x2 → ∃ n, F_law05_GustsTrue n x0 x1 x2 = some true)
    (T : Type) (enc : TypeId × Value → T) (W : World) (base : Nat) (args : Array Value) (ds gs : List (DataW T)) (before : List MemPlace)
    (hval : ∀ (j : Nat) t v, Try.f10.params[j]? = some t → args[j]? = some v → Value.okWide Try.prog W .any base t v)
    (hW : DataW.Whole enc Try.prog Try.f10.params.toList Rows.gustsTrueSpec.vars false W args.toList ds gs before) :
    Calls Try.prog 10 args W fun e W' => ∃ v, e = .returned v ∧ Rows.gustsTrueSpec.post enc Try.prog Try.f10 false true false false W args v W' := by
  have hW' := hW
  obtain ⟨p, q, hA0, hV, rfl, hfz, hnd⟩ := hW
  have hA : DataW.TrodAll enc Try.prog W 0 (fun _ => true) true Try.f10.params.toList args.toList ds p := hA0
  rw [Try.params10] at hA hval
  obtain ⟨v0, vs0, d0, ds0, p0, q0, hargs, rfl, rfl, h0, r0⟩ := trodAll_cons hA
  obtain ⟨v1, vs1, d1, ds1, p1, q1, rfl, rfl, rfl, h1, r1⟩ := trodAll_cons r0
  obtain ⟨v2, vs2, d2, ds2, p2, q2, rfl, rfl, rfl, h2, r2⟩ := trodAll_cons r1
  obtain ⟨rfl, rfl, rfl⟩ := trodAll_nil r2
  obtain rfl : args = #[v0, v1, v2] := by rw [← Array.toArray_toList (xs := args), hargs]
  obtain ⟨rfl, rfl⟩ := trodVars_none hV
  obtain ⟨cs0, rfl, hs0⟩ := okWide_struct Try.underlying30 (hval 0 30 v0 rfl rfl)
  obtain ⟨a1, l1, c1, rfl⟩ := okWide_slice Try.underlying34 (hval 1 34 v1 rfl rfl)
  obtain ⟨cs2, rfl, hs2⟩ := okWide_struct Try.underlying74 (hval 2 74 v2 rfl rfl)
  have k0 := h0
  obtain ⟨f0, e0⟩ := h0
  have k1 := h1
  obtain ⟨f1, e1⟩ := h1
  have k2 := h2
  obtain ⟨f2, e2⟩ := h2
  obtain ⟨_, x0, r0, w0⟩ := o_Canopy _ _ _ _ _ _ _ e0
  obtain ⟨_, x1, ⟨v1, q1, s1⟩, w1⟩ := (Opens.slice (enc := enc) (P := Try.prog) (t := 34) (e := 32) (sz := 2) (by kernel_rfl) (by kernel_rfl) rfl o_Gust) _ _ _ _ _ _ _ e1
  obtain ⟨_, x2, r2, w2⟩ := o_law05_Real _ _ _ _ _ _ _ e2
  obtain ⟨n, hn⟩ := law x0 x1 x2 w0 w1 w2
  obtain ⟨u0_0, u0_1, u0_2, q0, s0_0, s0_1, s0_2⟩ := r0
  have q0 : cs0.toList = _ := q0
  obtain rfl : cs0 = _ := by rw [← Array.toArray_toList (xs := cs0), q0]
  have q1 : [Value.slice a1 l1 c1] = [v1] := q1
  cases q1
  obtain ⟨u2_0, q2, s2_0⟩ := r2
  have q2 : cs2.toList = _ := q2
  obtain rfl : cs2 = _ := by rw [← Array.toArray_toList (xs := cs2), q2]
  have hlt : ∀ x ∈ p0 ++ (p1 ++ (p2 ++ [])), x.block < W.heap.size := fun x hx => hW'.lt x (by simpa using hx)
  refine ((c_law05_GustsTrue n (hw W) x0 u0_0 s0_0 u0_1 s0_1 u0_2 s0_2 x1 _ s1 x2 u2_0 s2_0 true hn) W (hw_le W)).mono fun e W' ⟨he, hb⟩ => ?_
  subst he
  refine ⟨_, rfl, _, _, _, [], p0 ++ (p1 ++ (p2 ++ [])), [], hW', trodAll_cons_mk (shut_bool Try.underlying4 _) trodAll_mk0, ?_, rfl, hb.frame _, fun h => by cases h⟩
  exact trodAll_cons_mk (Below.trod cl_laidOut (by kernel_rfl) (of_decide_eq_true (by kernel_rfl)) k0 hb (fun x hx => hlt x (List.mem_append_left _ hx))) (trodAll_cons_mk (Below.trod cl_laidOut (by kernel_rfl) (of_decide_eq_true (by kernel_rfl)) k1 hb (fun x hx => hlt x (List.mem_append_right _ (List.mem_append_left _ hx)))) (trodAll_cons_mk (Below.trod cl_laidOut (by kernel_rfl) (of_decide_eq_true (by kernel_rfl)) k2 hb (fun x hx => hlt x (List.mem_append_right _ (List.mem_append_right _ (List.mem_append_left _ hx))))) trodAll_mk0))

set_option maxRecDepth 100000 in
theorem gustsTrue_lifted (law : ∀ (x0 : Canopy) (x1 : List Gust) (x2 : law05_Real), W_Canopy x0 → ((∀ z0 ∈ x1, W_Gust z0) ∧ x1.length ≤ 9223372036854775807) → W_law05_Real x2 → ∃ n, F_law05_GustsTrue n x0 x1 x2 = some true)
    (os : Os) (started : os.Started) (H : Type) (enc : TypeId × Value → H) :
    ReturnsInHanded {} Try.checked os 10 .any (Rows.gustsTrueSpec.pre6 enc Try.prog Try.f10 Rows.gustsTrueRow.domain false) (Rows.gustsTrueSpec.post enc Try.prog Try.f10 false true false false) := by
  refine returnsInHanded_of_change (C := Try.checked) cl_own started (by kernel_rfl) Try.func10
    (ChangeSpec.witness6 (enc := enc) (C := Try.checked) false ⟨#[], #[.agg #[.slice none 0 0, .int .i64 0, .int .i64 0, .int .i64 0, .int .i64 0, .int .i64 0, .int .i64 0, .slice none 0 0, .slice none 0 0], .slice none 0 0, .agg #[.int .i64 0, .int .i64 0, .slice none 0 0, .int .i64 0]], []⟩ 8 (by kernel_rfl) (by kernel_rfl) (by kernel_rfl) (by kernel_rfl)) ?_
  intro W base args ds gs before hval hW _ _
  exact gustsTrue_contract law H enc W base args ds gs before hval hW

theorem gustsTrue_holds (law : ∀ (x0 : Canopy) (x1 : List Gust) (x2 : law05_Real), W_Canopy x0 → ((∀ z0 ∈ x1, W_Gust z0) ∧ x1.length ≤ 9223372036854775807) → W_law05_Real x2 → ∃ n, F_law05_GustsTrue n x0 x1 x2 = some true) : Rows.GustsTrueSaid :=
  OpenClaim.holds_of_wide 10 Try.f10 rfl rfl rfl rfl rfl rfl rfl ⟨rfl, rfl, rfl, rfl, rfl⟩ rfl rfl rfl rfl rfl (by kernel_rfl) Try.func10 (by kernel_rfl)
    (of_decide_eq_true (by kernel_rfl)) (by unfold Func.isWrapper; first | (rw [if_pos (by decide +kernel)]; kernel_rfl) | (rw [if_neg (by decide +kernel)]; exact ⟨rfl, rfl⟩))
    (fun os started H enc _ => gustsTrue_lifted law os started H enc)
theorem gustsTrue_proved : Rows.GustsTrueSaid := gustsTrue_holds law_GustsTrue
end Go.Proofs.Ytcpnnfdhafbemaa
