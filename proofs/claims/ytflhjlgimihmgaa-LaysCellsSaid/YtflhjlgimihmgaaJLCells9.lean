/-
  LaysCells holds of every input that can be given, without a condition.
-/
import Derived.Test.YtflhjlgimihmgaaJLCells8
import Derived.JoinedCond
section
namespace Go.Proofs.Ytflhjlgimihmgaa
open Go Go.RowKit Go.Dec
section
variable {n : Nat}
theorem cellsL_small {p : Panel} (h : VPn p) (t : Int) (c r : Int) : (cellsL c r (rowsT p t)).length ≤ 32 := by
  rw [cellsL_len, areaR_turn]
  have := areaR_le h.r
  have := h.n
  omega
theorem p_Cells (hn : 1000000 ≤ n) {s : Lap} (hv : VL s) (i : Int) (p : Place) (hi : I64 i) : ∃ l e, F_lays_Cells n s i p = some (l, e) ∧ F_ref03_Cells n s i p = some (l, e) ∧ l.length ≤ 32 := by
  have hnp := hv.np
  obtain ⟨b, e1, q1⟩ := p_lIsPlace (n := n) p
  obtain ⟨b', e2, q2⟩ := p_IsPlace (n := n) p
  have hbb : b' = b := by rw [Bool.eq_iff_iff, q1, q2]
  subst hbb
  rw [F_lays_Cells, F_ref03_Cells, p_LCheck0 hn hv, p_Check0 hn hv]
  simp only [Option.bind_some, bne_self_eq_false, Bool.false_eq_true, if_false, p_lwithin, p_within, e1, e2]
  rw [w64_id (show -9223372036854775808 ≤ (s.Panels.length : Int) - 1 by omega) (by omega)]
  by_cases h : 0 ≤ i ∧ i ≤ (s.Panels.length : Int) - 1
  · rw [decide_eq_true h.1, decide_eq_true h.2]
    simp only [Bool.and_self, Bool.not_true, Bool.false_eq_true, if_false, Option.bind_some]
    cases b' with
    | false => exact ⟨[], 1, rfl, rfl, by simp⟩
    | true =>
      obtain ⟨k, rfl⟩ : ∃ k : Nat, i = k := ⟨i.toNat, by omega⟩
      obtain ⟨pa, hpa⟩ : ∃ p, s.Panels[k]? = some p := ⟨_, List.getElem?_eq_getElem (by omega)⟩
      have hvp := hv.p pa (List.mem_of_getElem? hpa)
      have hpl := q2.1 rfl
      have hb1 := hpl.1.2; have hb2 := hpl.2.1.2
      simp only [Bool.not_true, Bool.false_eq_true, if_false, geti_nat, hpa, Option.bind_some, p_covered hn hvp hpl.ok ⟨by omega, by omega⟩, p_CellsOf hn hvp hpl.ok ⟨by omega, by omega⟩]
      exact ⟨_, _, rfl, rfl, cellsL_small hvp _ _ _⟩
  · have : (decide (0 ≤ i) && decide (i ≤ (s.Panels.length : Int) - 1)) = false := by
      cases hb : (decide (0 ≤ i) && decide (i ≤ (s.Panels.length : Int) - 1)) with
      | false => rfl
      | true => simp only [Bool.and_eq_true, decide_eq_true_iff] at hb; exact absurd hb h
    rw [this]
    exact ⟨[], 1, rfl, rfl, by simp⟩
theorem p_Rooms (hn : 1000000 ≤ n) {s : Lap} (hv : VL s) (m : Int) : ∃ y, F_lays_Room n s m = some y ∧ F_ref03_Room n s m = some y := by
  by_cases h : 0 ≤ m ∧ m ≤ s.Length
  · obtain ⟨k, rfl⟩ : ∃ k : Nat, m = k := ⟨m.toNat, by omega⟩
    exact ⟨_, p_Room hn hv k h.2, p_RoomR hn hv k h.2⟩
  · have : (decide (0 ≤ m) && decide (m ≤ s.Length)) = false := by
      cases hb : (decide (0 ≤ m) && decide (m ≤ s.Length)) with
      | false => rfl
      | true => simp only [Bool.and_eq_true, decide_eq_true_iff] at hb; exact absurd hb h
    refine ⟨(0, 1), ?_, ?_⟩
    · rw [F_lays_Room, p_LCheck0 hn hv, p_lwithin]
      simp only [Option.bind_some, bne_self_eq_false, Bool.false_eq_true, if_false, this]
      rfl
    · rw [F_ref03_Room, p_Check0 hn hv, p_within]
      simp only [Option.bind_some, bne_self_eq_false, Bool.false_eq_true, if_false, this]
      rfl
end
theorem law_LaysCells (s : Lap) (x : law03_Ask) (lay : List Place) (hs : W_Lap s) (hx : W_law03_Ask x) (_ : (∀ z0 ∈ lay, W_Place z0) ∧ lay.length ≤ 9223372036854775807) : ∃ n, F_law03_LaysCells n s x lay = some true := by
  obtain ⟨n, hn⟩ : ∃ n : Nat, n = 2000000 := ⟨_, rfl⟩
  refine ⟨n, ?_⟩
  have hn2 : 2000000 ≤ n := by omega
  have hn1 : 1000000 ≤ n := by omega
  have hw : F_law03_works n = some true := by rw [hn]; exact works_ok
  rw [F_law03_LaysCells]
  obtain ⟨b, e, q, _⟩ := p_Far hn1 s hs.np
  rw [e]
  simp only [Option.bind_some]
  by_cases hb : b = false ∧ lay.length ≤ 20
  · obtain ⟨rfl, hlay⟩ := hb
    rw [decide_eq_false (show ¬ 20 < (lay.length : Int) by omega)]
    simp only [Bool.or_self, Bool.false_eq_true, if_false]
    obtain ⟨hsm, _⟩ := q rfl
    have h64 : ∀ c ∈ s.Faults ++ s.Flaws, In64 c.Row ∧ In64 c.Col := fun c hc => by
      rcases List.mem_append.1 hc with hc | hc
      · exact hs.2.2.1.1 c hc
      · exact hs.2.2.2.1.1 c hc
    obtain ⟨v, ev, hv, qv⟩ := p_Check hn1 s hsm
    obtain ⟨v', ev', hv', qv'⟩ := p_LCheck hn1 s hsm h64
    have hvv : v' = v := by
      rcases hv with h | h <;> rcases hv' with h' | h'
      · rw [h, h']
      · exact absurd (qv'.2 (qv.1 h)) (by rw [h']; decide)
      · exact absurd (qv.2 (qv'.1 h')) (by rw [h]; decide)
      · rw [h, h']
    subst hvv
    rw [p_Copy hn1 s hsm, lim_ok (by simp; omega)]
    simp only [Option.bind_some, ev, ev', bne_self_eq_false, Bool.false_eq_true, if_false, List.nil_append, p_same hn1 s hsm]
    by_cases hV : v' = 0
    · have hVL := qv.1 hV
      obtain ⟨l, er, c1, c2, c3⟩ := p_Cells hn1 hVL x.Panel x.Place hx.1
      obtain ⟨y, d1, d2⟩ := p_Needs hn2 hVL lay hlay
      obtain ⟨z, r1, r2⟩ := p_Rooms hn1 hVL x.Rows
      rw [c1, c2, d1, d2, r1, r2]
      simp only [Option.bind_some, p_sameCells hn1 l (by omega), beq_self_eq_true, Bool.and_self, if_true, hw]
    · have e1 : (v' != 0) = true := by simpa using hV
      have c1 : F_lays_Cells n s x.Panel x.Place = some ([], v') := by rw [F_lays_Cells, ev']; simp only [Option.bind_some, e1, if_true]
      have c2 : F_ref03_Cells n s x.Panel x.Place = some ([], v') := by rw [F_ref03_Cells, ev]; simp only [Option.bind_some, e1, if_true]
      have d1 : F_lays_Needs n s lay = some (0, v') := by rw [F_lays_Needs, ev']; simp only [Option.bind_some, e1, if_true]
      have d2 : F_ref03_Needs n s lay = some (0, v') := by rw [F_ref03_Needs, ev]; simp only [Option.bind_some, e1, if_true]
      have r1 : F_lays_Room n s x.Rows = some (0, v') := by rw [F_lays_Room, ev']; simp only [Option.bind_some, e1, if_true]
      have r2 : F_ref03_Room n s x.Rows = some (0, v') := by rw [F_ref03_Room, ev]; simp only [Option.bind_some, e1, if_true]
      rw [c1, c2, d1, d2, r1, r2]
      simp only [Option.bind_some, p_sameCells hn1 [] (by simp), beq_self_eq_true, Bool.and_self, if_true, hw]
  · rw [if_pos ?_, hw]; rfl
    cases b with
    | true => rfl
    | false => rw [decide_eq_true (show 20 < (lay.length : Int) by have : ¬ lay.length ≤ 20 := fun h => hb ⟨rfl, h⟩; omega), Bool.or_true]
end Go.Proofs.Ytflhjlgimihmgaa
end
section
namespace Go.Proofs.Ytflhjlgimihmgaa
open Go Go.RowKit Go.Dec Go.ChangeShapes Go.WideShapes Go.ChangeAt
set_option linter.unusedVariables false
theorem cl_laidOut : laidOutB Try.prog = true := by kernel_rfl
theorem cl_own : ownKnob Try.prog.godebug = none := by kernel_rfl
set_option maxRecDepth 100000 in
set_option maxHeartbeats 1000000 in
theorem laysCells_contract (law : ∀ (x0 : Lap) (x1 : law03_Ask) (x2 : List Place), W_Lap x0 → W_law03_Ask x1 → ((∀ z0 ∈ x2, W_Place z0) ∧ x2.length ≤ 9223372036854775807) → ∃ n, F_law03_LaysCells n x0 x1 x2 = some true)
    (T : Type) (enc : TypeId × Value → T) (W : World) (base : Nat) (args : Array Value) (ds gs : List (DataW T)) (before : List MemPlace)
    (hval : ∀ (j : Nat) t v, Try.f9.params[j]? = some t → args[j]? = some v → Value.okWide Try.prog W .any base t v)
    (hW : DataW.Whole enc Try.prog Try.f9.params.toList Rows.laysCellsSpec.vars false W args.toList ds gs before) :
    Calls Try.prog 9 args W fun e W' => ∃ v, e = .returned v ∧ Rows.laysCellsSpec.post enc Try.prog Try.f9 false true false false W args v W' := by
  have hW' := hW
  obtain ⟨p, q, hA0, hV, rfl, hfz, hnd⟩ := hW
  have hA : DataW.TrodAll enc Try.prog W 0 (fun _ => true) true Try.f9.params.toList args.toList ds p := hA0
  rw [Try.params9] at hA hval
  obtain ⟨v0, vs0, d0, ds0, p0, q0, hargs, rfl, rfl, h0, r0⟩ := trodAll_cons hA
  obtain ⟨v1, vs1, d1, ds1, p1, q1, rfl, rfl, rfl, h1, r1⟩ := trodAll_cons r0
  obtain ⟨v2, vs2, d2, ds2, p2, q2, rfl, rfl, rfl, h2, r2⟩ := trodAll_cons r1
  obtain ⟨rfl, rfl, rfl⟩ := trodAll_nil r2
  obtain rfl : args = #[v0, v1, v2] := by rw [← Array.toArray_toList (xs := args), hargs]
  obtain ⟨rfl, rfl⟩ := trodVars_none hV
  obtain ⟨cs0, rfl, hs0⟩ := okWide_struct Try.underlying25 (hval 0 25 v0 rfl rfl)
  obtain ⟨cs1, rfl, hs1⟩ := okWide_struct Try.underlying70 (hval 1 70 v1 rfl rfl)
  obtain ⟨a2, l2, c2, rfl⟩ := okWide_slice Try.underlying54 (hval 2 54 v2 rfl rfl)
  have k0 := h0
  obtain ⟨f0, e0⟩ := h0
  have k1 := h1
  obtain ⟨f1, e1⟩ := h1
  have k2 := h2
  obtain ⟨f2, e2⟩ := h2
  obtain ⟨_, x0, r0, w0⟩ := o_Lap _ _ _ _ _ _ _ e0
  obtain ⟨_, x1, r1, w1⟩ := o_law03_Ask _ _ _ _ _ _ _ e1
  obtain ⟨_, x2, ⟨v2, q2, s2⟩, w2⟩ := (Opens.slice (enc := enc) (P := Try.prog) (t := 54) (e := 62) (sz := 3) (by kernel_rfl) (by kernel_rfl) rfl o_Place) _ _ _ _ _ _ _ e2
  obtain ⟨n, hn⟩ := law x0 x1 x2 w0 w1 w2
  obtain ⟨u0_0, u0_1, u0_2, q0, s0_0, s0_1, s0_2⟩ := r0
  have q0 : cs0.toList = _ := q0
  obtain rfl : cs0 = _ := by rw [← Array.toArray_toList (xs := cs0), q0]
  have q1 : cs1.toList = _ := r1
  obtain rfl : cs1 = _ := by rw [← Array.toArray_toList (xs := cs1), q1]
  have q2 : [Value.slice a2 l2 c2] = [v2] := q2
  cases q2
  have hlt : ∀ x ∈ p0 ++ (p1 ++ (p2 ++ [])), x.block < W.heap.size := fun x hx => hW'.lt x (by simpa using hx)
  refine ((c_law03_LaysCells n (hw W) x0 u0_0 s0_0 u0_1 s0_1 u0_2 s0_2 x1 x2 _ s2 true hn) W (hw_le W)).mono fun e W' ⟨he, hb0⟩ => ?_
  have hb := hb0.plain rfl
  subst he
  refine ⟨_, rfl, _, _, _, [], p0 ++ (p1 ++ (p2 ++ [])), [], hW', trodAll_cons_mk (shut_bool Try.underlying4 _) trodAll_mk0, ?_, rfl, hb.frame _, fun h => by cases h⟩
  exact trodAll_cons_mk (Below.trod cl_laidOut (by kernel_rfl) (of_decide_eq_true (by kernel_rfl)) k0 hb (fun x hx => hlt x (List.mem_append_left _ hx))) (trodAll_cons_mk (Below.trod cl_laidOut (by kernel_rfl) (of_decide_eq_true (by kernel_rfl)) k1 hb (fun x hx => hlt x (List.mem_append_right _ (List.mem_append_left _ hx)))) (trodAll_cons_mk (Below.trod cl_laidOut (by kernel_rfl) (of_decide_eq_true (by kernel_rfl)) k2 hb (fun x hx => hlt x (List.mem_append_right _ (List.mem_append_right _ (List.mem_append_left _ hx))))) trodAll_mk0))
set_option maxRecDepth 100000 in
theorem laysCells_lifted (law : ∀ (x0 : Lap) (x1 : law03_Ask) (x2 : List Place), W_Lap x0 → W_law03_Ask x1 → ((∀ z0 ∈ x2, W_Place z0) ∧ x2.length ≤ 9223372036854775807) → ∃ n, F_law03_LaysCells n x0 x1 x2 = some true)
    (os : Os) (started : os.Started) (H : Type) (enc : TypeId × Value → H) :
    ReturnsInHanded {} Try.checked os 9 .any (Rows.laysCellsSpec.pre6 enc Try.prog Try.f9 Rows.laysCellsRow.domain false) (Rows.laysCellsSpec.post enc Try.prog Try.f9 false true false false) := by
  refine returnsInHanded_of_change (C := Try.checked) cl_own started (by kernel_rfl) Try.func9
    (ChangeSpec.witness6 (enc := enc) (C := Try.checked) false ⟨#[], #[.agg #[.int .i64 0, .int .i64 0, .slice none 0 0, .slice none 0 0, .slice none 0 0], .agg #[.int .i64 0, .int .i64 0, .int .i64 0, .int .i64 0, .int .i64 0], .slice none 0 0], []⟩ 8 (by kernel_rfl) (by kernel_rfl) (by kernel_rfl) (by kernel_rfl)) ?_
  intro W base args ds gs before hval hW _ _
  exact laysCells_contract law H enc W base args ds gs before hval hW
theorem laysCells_holds (law : ∀ (x0 : Lap) (x1 : law03_Ask) (x2 : List Place), W_Lap x0 → W_law03_Ask x1 → ((∀ z0 ∈ x2, W_Place z0) ∧ x2.length ≤ 9223372036854775807) → ∃ n, F_law03_LaysCells n x0 x1 x2 = some true) : Rows.LaysCellsSaid :=
  OpenClaim.holds_of_wide 9 Try.f9 rfl rfl rfl rfl rfl rfl rfl ⟨rfl, rfl, rfl, rfl, rfl⟩ rfl rfl rfl rfl rfl (by kernel_rfl) Try.func9 (by kernel_rfl)
    (of_decide_eq_true (by kernel_rfl)) (by unfold Func.isWrapper; first | (rw [if_pos (by decide +kernel)]; kernel_rfl) | (rw [if_neg (by decide +kernel)]; exact ⟨rfl, rfl⟩))
    (fun os started H enc _ => laysCells_lifted law os started H enc)
theorem laysCells_proved : Rows.LaysCellsSaid := laysCells_holds law_LaysCells
end Go.Proofs.Ytflhjlgimihmgaa
end
