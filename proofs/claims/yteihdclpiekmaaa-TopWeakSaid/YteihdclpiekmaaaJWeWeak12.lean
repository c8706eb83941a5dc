/-
  TopWeak holds of every input that can be given, without a condition.
-/
import Derived.Test.YteihdclpiekmaaaJWeWeak11
import Derived.JoinedCond
section
namespace Go.Proofs.Yteihdclpiekmaaa
open Go Go.RowKit Go.Dec
theorem p_CheckShow3 {n : Nat} (hn : 200000000 ≤ n) {r : Run} (hs : SmallR r) : F_ref13_CheckShow n r = some (errR r true) := by
  simp only [F_ref13_CheckShow, p_known hn hs, Option.bind_some, knownT]
  split
  · rename_i h; simp [h]
  · rfl
theorem fold_setx {α : Type} (y : α) : ∀ (l : List Int) (b : List α) (j : Nat), (∀ x ∈ l, 0 ≤ x) → (l.foldl (fun b x => setx b x y) b).length = b.length ∧ (j < b.length → (l.foldl (fun b x => setx b x y) b)[j]? = if l.contains (j : Int) = true then some y else b[j]?)
  | [], b, j, _ => by simp
  | a :: l, b, j, h => by
    obtain ⟨h1, h2⟩ := fold_setx y l (setx b a y) j fun x hx => h x (List.mem_cons_of_mem _ hx)
    have ha := h a (List.mem_cons_self ..)
    rw [List.foldl_cons]
    refine ⟨by rw [h1, setx_len], fun hj => ?_⟩
    rw [h2 (by rw [setx_len]; exact hj), List.contains_cons]
    by_cases hl : l.contains (j : Int) = true
    · simp only [hl, Bool.or_true, if_true]
    · simp only [Bool.not_eq_true] at hl
      simp only [hl, Bool.or_false, Bool.false_eq_true, if_false]
      unfold setx
      rw [List.getElem?_set]
      by_cases hja : a.toNat = j
      · have : ((j : Int) == a) = true := by simp; omega
        simp [hja, this, hj]
      · have : ((j : Int) == a) = false := by simp; omega
        simp [hja, this]
theorem law_TopWeak (r : Run) (left : Int) (_ : W_Run r) (_ : I64 left) : ∃ n, F_top_TopWeak n r left = some true := by
  have hn2 : 200000000 ≤ 200000000 := Nat.le_refl _
  have hn : 100000000 ≤ 200000000 := by omega
  refine ⟨200000000, ?_⟩
  have hw := tested_any hn
  simp only [F_top_TopWeak]
  rcases p_isRun hn r with h | ⟨h, hr⟩
  · simp [h, hw]
  · have hs := hr.small
    have hnb := hr.nb
    have hd := hr.d
    have hdr := hd.r
    simp only [h, Option.bind_some, Bool.not_true, Bool.false_eq_true, if_false, p_CheckShow3 hn2 hs]
    rcases errR_three hr with e | e
    · have hln := great_len r
      have hask : ∀ o : Canopy, DOk o → Same r.Canopy o → askG o (greatL r) = 0 := fun o ho hso => askG_ok.2 ⟨ho, by omega, fun g hg => by rw [hso.n]; exact great_ok e hg⟩
      have hask0 := hask r.Canopy hd ⟨rfl, rfl, rfl⟩
      have hwk : weakT r.Canopy (greatL r) = (listS r.Canopy.Ribs.length (weakP r.Canopy (greatL r)), 0) := by unfold weakT; rw [if_pos hask0]
      have lw := listS_len hdr.2 (weakP r.Canopy (greatL r))
      simp only [e, bne_self_eq_false, Bool.false_eq_true, if_false, p_greatest hn e, Bool.not_true, Option.bind_some, p_Weak hn hs.1 (l := greatL r) (by omega), hwk, Bool.false_or]
      rw [if_neg (show ¬ decide ((r.Canopy.Ribs.length : Int) < ((listS r.Canopy.Ribs.length (weakP r.Canopy (greatL r))).length : Int)) = true by rw [decide_eq_true_eq]; omega)]
      -- the strong dome
      have hpos : ∀ x ∈ listS r.Canopy.Ribs.length (weakP r.Canopy (greatL r)), 0 ≤ x := fun x hx => by
        obtain ⟨j, _, rfl⟩ := List.mem_map.1 hx; simp
      have hloop : loopO 200000000 (F_top_TopWeak_s1 200000000 r (listS r.Canopy.Ribs.length (weakP r.Canopy (greatL r)), 0)) (0, r.Canopy.Ribs) = some (.inr ((listS r.Canopy.Ribs.length (weakP r.Canopy (greatL r))).foldl (fun b x => setx b x ⟨99999, 99999⟩) r.Canopy.Ribs)) := by
        have kk := (loop_fold (step := F_top_TopWeak_s1 200000000 r (listS r.Canopy.Ribs.length (weakP r.Canopy (greatL r)), 0)) (listS r.Canopy.Ribs.length (weakP r.Canopy (greatL r))) (fun i (b : List Span) => ((i : Int), b)) (fun b x => setx b x ⟨99999, 99999⟩) (fun b => Sum.inr b) (fun i b => b.length = r.Canopy.Ribs.length) (n := 200000000) r.Canopy.Ribs rfl (fun i x b hx hb => ?_) (fun b hb => ?_) (by omega)).1
        · rw [show ((0 : Nat) : Int) = 0 from rfl] at kk
          exact kk
        · have hi := (List.getElem?_eq_some_iff.1 hx).1
          obtain ⟨j, rfl, hj, hp⟩ := listS_get hx
          have hbj : b[j]? = some (b[j]'(by omega)) := List.getElem?_eq_getElem (by omega)
          refine ⟨?_, by rw [setx_len]; exact hb⟩
          have c1 : ¬ decide ((j : Int) < 0) = true := by rw [decide_eq_true_eq]; omega
          have c2 : decide ((r.Canopy.Ribs.length : Int) ≤ (j : Int)) = false := decide_eq_false (by omega)
          simp only [F_top_TopWeak_s1, lt_nat, hi, decide_true, if_true, geti_nat, hx, Option.bind_some, c1, c2, Bool.false_eq_true, if_false, hbj, w64_nat (show i ≤ 4611686018427387904 by omega)]
        · simp [F_top_TopWeak_s1]
      have hset := fun j => fold_setx (Span.mk 99999 99999) (listS r.Canopy.Ribs.length (weakP r.Canopy (greatL r))) r.Canopy.Ribs j hpos
      generalize hout : (listS r.Canopy.Ribs.length (weakP r.Canopy (greatL r))).foldl (fun b x => setx b x (Span.mk 99999 99999)) r.Canopy.Ribs = out at hloop hset
      have olen : out.length = r.Canopy.Ribs.length := (hset 0).1
      have oget : ∀ j, j < r.Canopy.Ribs.length → out[j]? = if weakP r.Canopy (greatL r) j = true then some ⟨99999, 99999⟩ else r.Canopy.Ribs[j]? := fun j hj => by
        have := (hset j).2 hj
        rw [listS_mem] at this
        simpa [hj] using this
      have omem : ∀ s ∈ out, s = ⟨99999, 99999⟩ ∨ s ∈ r.Canopy.Ribs := fun s hsm => by
        obtain ⟨j, hj, rfl⟩ := List.getElem_of_mem hsm
        have h1 := oget j (by omega)
        rw [List.getElem?_eq_getElem hj] at h1
        split at h1
        · left; simpa using h1
        · right; exact List.mem_of_getElem? h1.symm
      have mk : ∀ (R : List Span), R.length = r.Canopy.Ribs.length → (∀ s ∈ R, s = ⟨99999, 99999⟩ ∨ s ∈ r.Canopy.Ribs) → DOk ⟨r.Canopy.Frame, R, r.Canopy.Shares⟩ := fun R hR hm => by
        refine ⟨hd.f, by rw [hR]; exact hdr, by rw [hR]; exact hd.s, fun s hsm => ?_, hd.sh⟩
        rcases hm s hsm with rfl | hsm
        · simp
        · exact hd.ribs s hsm
      have rok : ∀ (R : List Span), R.length = r.Canopy.Ribs.length → DOk ⟨r.Canopy.Frame, R, r.Canopy.Shares⟩ → ROk ⟨⟨r.Canopy.Frame, R, r.Canopy.Shares⟩, r.Blows, r.Meters, r.Wrong⟩ := fun R hR ho => ⟨ho, hr.nb, hr.nm, fun b hb => by
        obtain ⟨a1, a2, a3, a4, a5⟩ := hr.b b hb
        exact ⟨by simp only [hR]; exact a1, a2, a3, a4, a5⟩, hr.m, hr.w⟩
      have ho := mk out olen omem
      have same : Same r.Canopy ⟨r.Canopy.Frame, out, r.Canopy.Shares⟩ := ⟨rfl, rfl, olen⟩
      have hro := rok out olen ho
      have hstands : ∀ g ∈ greatL r, standsI ⟨r.Canopy.Frame, out, r.Canopy.Shares⟩ [g] = 1 := fun g hgm => by
        refine stands_one.2 fun z hz => ?_
        rw [List.mem_singleton.1 hz]
        refine noneP_iff.2 fun j hj => ?_
        have hj' : j < r.Canopy.Ribs.length := by rw [same.n] at hj; exact hj
        have hgo := great_ok e hgm
        rw [firstP_eq, same.ldW]
        have hld := load_in (lift := (liftS r.Canopy).High) (by have := lift_in hd; omega) hd.sh (g := g) hgo.f (sh_pos hd) j
        simp only [Bool.and_eq_false_iff, decide_eq_false_iff_not]
        right
        by_cases hwk : weakP r.Canopy (greatL r) j = true
        · have := oget j hj'
          rw [if_pos hwk] at this
          rw [stW_get (d := ⟨r.Canopy.Frame, out, r.Canopy.Shares⟩) this]
          unfold ldW; simp only; omega
        · have := oget j hj'
          rw [if_neg hwk] at this
          obtain ⟨s, hs1, _⟩ := rib_get hj'
          rw [stW_get (d := ⟨r.Canopy.Frame, out, r.Canopy.Shares⟩) (this.trans hs1)]
          have hno : firstP r.Canopy g j = false := by
            cases hf : firstP r.Canopy g j
            · rfl
            · exact absurd (List.any_eq_true.2 ⟨g, hgm, hf⟩) hwk
          rw [firstP_eq, stW_get hs1] at hno
          simpa [hj'] using hno
      obtain ⟨eo, hz⟩ := high_zero e hro rfl rfl
      have h1 : (stoodT ⟨⟨r.Canopy.Frame, out, r.Canopy.Shares⟩, r.Blows, r.Meters, r.Wrong⟩).1 = 1 := (stood_high eo).2 (hz.2 hstands)
      simp only [p_Copy13 hn hs, Option.bind_some, hloop, p_Stood hn hro.small, stood_err, eo, h1, bne_self_eq_false, Bool.or_self, Bool.false_eq_true, if_false]
      split
      · rw [hw]; rfl
      · rename_i hC
        simp only [Bool.or_eq_true, decide_eq_true_eq, not_or] at hC
        obtain ⟨p, rfl⟩ : ∃ p : Nat, left = p := ⟨left.toNat, by omega⟩
        have hpx : (listS r.Canopy.Ribs.length (weakP r.Canopy (greatL r)))[p]? = some ((listS r.Canopy.Ribs.length (weakP r.Canopy (greatL r)))[p]'(by omega)) := List.getElem?_eq_getElem (by omega)
        obtain ⟨j, hj1, hj, hjw⟩ := listS_get hpx
        rw [hj1] at hpx
        obtain ⟨s, hs1, hs2⟩ := rib_get hj
        have hoj := oget j hj
        rw [if_pos hjw] at hoj
        have hlen2 : (setx out (j : Int) s).length = r.Canopy.Ribs.length := by rw [setx_len]; exact olen
        have ho2 := mk (setx out (j : Int) s) hlen2 (fun z hz => by
          rcases setx_mem hz with rfl | hz
          · exact .inr hs2
          · exact omem z hz)
        have same2 : Same r.Canopy ⟨r.Canopy.Frame, setx out (j : Int) s, r.Canopy.Shares⟩ := ⟨rfl, rfl, hlen2⟩
        have hro2 := rok (setx out (j : Int) s) hlen2 ho2
        obtain ⟨eo2, hz2⟩ := high_zero e hro2 rfl rfl
        have hne : (stoodT ⟨⟨r.Canopy.Frame, setx out (j : Int) s, r.Canopy.Shares⟩, r.Blows, r.Meters, r.Wrong⟩).1 ≠ 1 := fun hc => by
          obtain ⟨g, hgm, hf⟩ := List.any_eq_true.1 hjw
          have h0 := hz2.1 ((stood_high eo2).1 hc) g hgm
          have h1 := noneP_iff.1 (stands_one.1 h0 g (List.mem_singleton.2 rfl)) j (by rw [same2.n]; exact hj)
          have hg2 : (setx out (j : Int) s)[j]? = some s := by rw [setx_get (by omega)]; simp
          rw [firstP_eq, same2.ldW, stW_get (d := ⟨r.Canopy.Frame, setx out (j : Int) s, r.Canopy.Shares⟩) hg2, same2.n] at h1
          rw [firstP_eq, stW_get hs1] at hf
          rw [hf] at h1; simp at h1
        have hne' : ((stoodT ⟨⟨r.Canopy.Frame, setx out (j : Int) s, r.Canopy.Shares⟩, r.Blows, r.Meters, r.Wrong⟩).1 != 1) = true := by simpa using hne
        simp only [geti_nat, hpx, Option.bind_some, hs1, hoj, p_Stood hn hro2.small, stood_err, eo2, beq_self_eq_true, hne', Bool.and_self, if_true, hw]
    · simp [e, hw]
end Go.Proofs.Yteihdclpiekmaaa
end
section
namespace Go.Proofs.Yteihdclpiekmaaa
open Go Go.RowKit Go.Dec Go.ChangeShapes Go.WideShapes Go.ChangeAt
set_option linter.unusedVariables false
theorem cl_laidOut : laidOutB Try.prog = true := by kernel_rfl
theorem cl_own : ownKnob Try.prog.godebug = none := by kernel_rfl
set_option maxRecDepth 100000 in
set_option maxHeartbeats 1000000 in
theorem topWeak_contract (law : ∀ (x0 : Run) (x1 : Int), W_Run x0 → I64 x1 → ∃ n, F_top_TopWeak n x0 x1 = some true)
    (T : Type) (enc : TypeId × Value → T) (W : World) (base : Nat) (args : Array Value) (ds gs : List (DataW T)) (before : List MemPlace)
    (hval : ∀ (j : Nat) t v, Try.f8.params[j]? = some t → args[j]? = some v → Value.okWide Try.prog W .any base t v)
    (hW : DataW.Whole enc Try.prog Try.f8.params.toList Rows.topWeakSpec.vars false W args.toList ds gs before) :
    Calls Try.prog 8 args W fun e W' => ∃ v, e = .returned v ∧ Rows.topWeakSpec.post enc Try.prog Try.f8 false true false false W args v W' := by
  have hW' := hW
  obtain ⟨p, q, hA0, hV, rfl, hfz, hnd⟩ := hW
  have hA : DataW.TrodAll enc Try.prog W 0 (fun _ => true) true Try.f8.params.toList args.toList ds p := hA0
  rw [Try.params8] at hA hval
  obtain ⟨v0, vs0, d0, ds0, p0, q0, hargs, rfl, rfl, h0, r0⟩ := trodAll_cons hA
  obtain ⟨v1, vs1, d1, ds1, p1, q1, rfl, rfl, rfl, h1, r1⟩ := trodAll_cons r0
  obtain ⟨rfl, rfl, rfl⟩ := trodAll_nil r1
  obtain rfl : args = #[v0, v1] := by rw [← Array.toArray_toList (xs := args), hargs]
  obtain ⟨rfl, rfl⟩ := trodVars_none hV
  obtain ⟨cs0, rfl, hs0⟩ := okWide_struct Try.underlying90 (hval 0 90 v0 rfl rfl)
  obtain ⟨n1, rfl⟩ := okWide_int Try.underlying3 (hval 1 3 v1 rfl rfl)
  have k0 := h0
  obtain ⟨f0, e0⟩ := h0
  have k1 := h1
  obtain ⟨f1, e1⟩ := h1
  obtain ⟨_, x0, r0, w0⟩ := o_Run _ _ _ _ _ _ _ e0
  obtain ⟨_, x1, r1, w1⟩ := (Opens.int (by kernel_rfl)) _ _ _ _ _ _ _ e1
  obtain ⟨n, hn⟩ := law x0 x1 w0 w1
  obtain ⟨u0_0, u0_1, u0_2, u0_3, u0_4, q0, s0_0, s0_1, s0_2, s0_3, s0_4⟩ := r0
  have q0 : cs0.toList = _ := q0
  obtain rfl : cs0 = _ := by rw [← Array.toArray_toList (xs := cs0), q0]
  have q1 : [Value.int .i64 n1] = [Value.int .i64 x1] := r1
  obtain rfl : x1 = n1 := by simpa using q1.symm
  have hlt : ∀ x ∈ p0 ++ (p1 ++ []), x.block < W.heap.size := fun x hx => hW'.lt x (by simpa using hx)
  refine ((c_top_TopWeak n (hw W) x0 u0_0 s0_0 u0_1 s0_1 u0_2 s0_2 u0_3 s0_3 u0_4 s0_4 x1 true hn) W (hw_le W)).mono fun e W' ⟨he, hb0⟩ => ?_
  have hb := hb0.plain rfl
  subst he
  refine ⟨_, rfl, _, _, _, [], p0 ++ (p1 ++ []), [], hW', trodAll_cons_mk (shut_bool Try.underlying4 _) trodAll_mk0, ?_, rfl, hb.frame _, fun h => by cases h⟩
  exact trodAll_cons_mk (Below.trod cl_laidOut (by kernel_rfl) (of_decide_eq_true (by kernel_rfl)) k0 hb (fun x hx => hlt x (List.mem_append_left _ hx))) (trodAll_cons_mk (Below.trod cl_laidOut (by kernel_rfl) (of_decide_eq_true (by kernel_rfl)) k1 hb (fun x hx => hlt x (List.mem_append_right _ (List.mem_append_left _ hx)))) trodAll_mk0)
set_option maxRecDepth 100000 in
theorem topWeak_lifted (law : ∀ (x0 : Run) (x1 : Int), W_Run x0 → I64 x1 → ∃ n, F_top_TopWeak n x0 x1 = some true)
    (os : Os) (started : os.Started) (H : Type) (enc : TypeId × Value → H) :
    ReturnsInHanded {} Try.checked os 8 .any (Rows.topWeakSpec.pre6 enc Try.prog Try.f8 Rows.topWeakRow.domain false) (Rows.topWeakSpec.post enc Try.prog Try.f8 false true false false) := by
  refine returnsInHanded_of_change (C := Try.checked) cl_own started (by kernel_rfl) Try.func8
    (ChangeSpec.witness6 (enc := enc) (C := Try.checked) false ⟨#[], #[.agg #[.slice none 0 0, .int .i64 0, .int .i64 0, .int .i64 0, .int .i64 0, .int .i64 0, .int .i64 0, .slice none 0 0, .slice none 0 0, .slice none 0 0, .slice none 0 0, .int .i64 0], .int .i64 0], []⟩ 8 (by kernel_rfl) (by kernel_rfl) (by kernel_rfl) (by kernel_rfl)) ?_
  intro W base args ds gs before hval hW _ _
  exact topWeak_contract law H enc W base args ds gs before hval hW
theorem topWeak_holds (law : ∀ (x0 : Run) (x1 : Int), W_Run x0 → I64 x1 → ∃ n, F_top_TopWeak n x0 x1 = some true) : Rows.TopWeakSaid :=
  OpenClaim.holds_of_wide 8 Try.f8 rfl rfl rfl rfl rfl rfl rfl ⟨rfl, rfl, rfl, rfl, rfl⟩ rfl rfl rfl rfl rfl (by kernel_rfl) Try.func8 (by kernel_rfl)
    (of_decide_eq_true (by kernel_rfl)) (by unfold Func.isWrapper; first | (rw [if_pos (by decide +kernel)]; kernel_rfl) | (rw [if_neg (by decide +kernel)]; exact ⟨rfl, rfl⟩))
    (fun os started H enc _ => topWeak_lifted law os started H enc)
theorem topWeak_proved : Rows.TopWeakSaid := topWeak_holds law_TopWeak
end Go.Proofs.Yteihdclpiekmaaa
end
