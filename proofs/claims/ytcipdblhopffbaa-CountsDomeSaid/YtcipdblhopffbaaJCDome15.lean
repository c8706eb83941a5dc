/-
  CountsDome holds of every input that can be given, without a condition.
-/
import Derived.Test.YtcipdblhopffbaaJCDome14
import Derived.OpenShut
import Derived.JoinedCond
import Derived.ProofKit
import Derived.WalkKit
section
namespace Go.Proofs.Ytcipdblhopffbaa
open Go Go.RowKit Go.Dec
theorem law_CountsDome (r : Run) (x : law13_Stronger) (_ : W_Run r) (_ : W_law13_Stronger x) : ∃ n, F_law13_CountsDome n r x = some true := by
  have hn : 100000000 ≤ 100000000 := Nat.le_refl _
  refine ⟨100000000, ?_⟩
  have hw := works13 hn
  simp only [F_law13_CountsDome]
  rcases p_ready hn r with h | ⟨h, hr⟩
  · simp [h, hw]
  · have hs := hr.small
    have nb := hr.nb
    have hd := hr.d
    have hdr := hd.r
    simp only [h, Option.bind_some, Bool.not_true, Bool.false_eq_true, if_false, p_IsRib05 hn r.Canopy x.Rib (by omega)]
    split
    · rw [hw]; rfl
    · rename_i hC
      simp only [Bool.or_eq_true, Bool.not_eq_true', decide_eq_true_eq, not_or, Bool.not_eq_false, wi_t] at hC
      obtain ⟨⟨⟨⟨c1, c2⟩, c3⟩, c4⟩, c5⟩ := hC
      obtain ⟨rib, By, Bl⟩ := x
      simp only at c1 c2 c3 c4 c5 ⊢
      obtain ⟨i, rfl⟩ : ∃ i : Nat, Bl = i := ⟨Bl.toNat, by omega⟩
      obtain ⟨q, rfl⟩ : ∃ q : Nat, rib = q := ⟨rib.toNat, by omega⟩
      have hi : i < r.Blows.length := by omega
      have hq : q < r.Canopy.Ribs.length := by omega
      simp only [p_Stood hn hs, p_Harm hn hs, p_Forces hn hs, Option.bind_some, stood_err, harm_err, forces_in (r := r) (i := (i : Int)) (by omega) (by omega)]
      rcases errR_three hr with e | e
      · obtain ⟨s0, s1, s2, s3, s4, s5⟩ := harm_spec e
        obtain ⟨f1, f2⟩ := forces_at e hi
        have fl := forces_len hr (i := (i : Int)) (by omega) (by omega)
        have fs := forces_sorted r (i : Int)
        have fm : ∀ f, f ∈ forcesL r (i : Int) ↔ ∃ c ∈ truthsC r, c[i]? = some f := fun f => by
          have := forces_mem hr (i := (i : Int)) (f := f) (by omega) (by omega)
          rwa [Int.toNat_natCast] at this
        generalize hL : forcesL r (i : Int) = L at *
        have hL0 : 0 < L.length := List.length_pos_iff.2 f2
        have hst : stoodT r = (if (harmT r).1.High = 0 then 1 else if 0 < (harmT r).1.Low then 2 else 3, 0) := by unfold stoodT; rw [if_pos e]
        simp only [e, if_true, hst, bne_self_eq_false, Bool.or_self, Bool.false_and, Bool.false_or, beq_self_eq_true, Bool.true_and, Bool.false_eq_true, if_false]
        rw [if_neg (show ¬ (((L.length : Int) == 0) || decide (20 < (L.length : Int))) = true by rw [Bool.or_eq_true, beq_iff_eq, decide_eq_true_eq]; omega)]
        obtain ⟨lo, hlo⟩ : ∃ lo, L[0]? = some lo := ⟨L[0], List.getElem?_eq_getElem hL0⟩
        obtain ⟨hi', hhi⟩ : ∃ x, L[L.length - 1]? = some x := ⟨_, List.getElem?_eq_getElem (show L.length - 1 < L.length by omega)⟩
        have hg0 : geti L 0 = some lo := by
          have := geti_nat L 0
          rw [show ((0 : Nat) : Int) = 0 from rfl] at this
          rw [this]; exact hlo
        have hg1 : geti L (w64 ((L.length : Int) - 1)) = some hi' := by
          rw [w64_id (by omega) (by omega), show (L.length : Int) - 1 = ((L.length - 1 : Nat) : Int) by omega, geti_nat]
          exact hhi
        have m0 := f1 _ (List.mem_of_getElem? hlo)
        have m1 := f1 _ (List.mem_of_getElem? hhi)
        have hmin : ∀ y ∈ L, lo ≤ y := sorted_head fs hlo
        obtain ⟨cM, hcM, hcMe⟩ := (fm hi').1 (List.mem_of_getElem? hhi)
        have hb := hr.b _ (List.getElem_mem hi)
        have hba := hb.at_
        have hbi : geti r.Blows (i : Int) = some r.Blows[i] := by rw [geti_nat]; exact List.getElem?_eq_getElem hi
        have hbn : r.Blows[i]? = some r.Blows[i] := List.getElem?_eq_getElem hi
        generalize r.Blows[i] = b at *
        have g0 : GOk r.Canopy.Ribs.length ⟨lo, b.At⟩ := ⟨by simp only; omega, by simp only; omega⟩
        have g1 : GOk r.Canopy.Ribs.length ⟨hi', b.At⟩ := ⟨by simp only; omega, by simp only; omega⟩
        have d1 : (((((((((if (harmT r).1.High = 0 then (1 : Int) else if 0 < (harmT r).1.Low then 2 else 3) == 1) != ((harmT r).1.High == 0)) || (((if (harmT r).1.High = 0 then (1 : Int) else if 0 < (harmT r).1.Low then 2 else 3) == 2) != decide (0 < (harmT r).1.Low))) || decide ((harmT r).1.Low < 0)) || decide ((harmT r).1.High < (harmT r).1.Low)) || decide ((r.Blows.length : Int) < (harmT r).1.High)) || decide ((if (harmT r).1.High = 0 then (1 : Int) else if 0 < (harmT r).1.Low then 2 else 3) < 1)) || decide (3 < (if (harmT r).1.High = 0 then (1 : Int) else if 0 < (harmT r).1.Low then 2 else 3))) = false := by
          by_cases hA : (harmT r).1.High = 0
          · have : ¬ 0 < (harmT r).1.Low := by omega
            simp [hA]; omega
          · by_cases hB : 0 < (harmT r).1.Low
            · simp [hA, hB]; omega
            · simp [hA, hB]; omega
        rw [d1]
        simp only [Bool.false_eq_true, if_false, hg0, hg1, hbi, Option.bind_some]
        rw [if_neg (show ¬ decide (lo < 0) = true by simp; omega)]
        simp only [Option.bind_some]
        rw [if_neg (show ¬ decide (99 < hi') = true by simp; omega)]
        simp only [p_Stands hn hd.small (l := [⟨lo, b.At⟩]) (by simp), p_Stands hn hd.small (l := [⟨hi', b.At⟩]) (by simp), Option.bind_some, standsT_at hd g0, standsT_at hd g1, bne_self_eq_false, Bool.or_self, Bool.false_or]
        have d2 : (((standsI r.Canopy [⟨lo, b.At⟩] == 2) && ((if (harmT r).1.High = 0 then (1 : Int) else if 0 < (harmT r).1.Low then 2 else 3) != 2)) || ((standsI r.Canopy [⟨hi', b.At⟩] != 1) && ((if (harmT r).1.High = 0 then (1 : Int) else if 0 < (harmT r).1.Low then 2 else 3) == 1))) = false := by
          have k1 : standsI r.Canopy [⟨lo, b.At⟩] = 2 → 1 ≤ (harmT r).1.Low := fun h2 => by
            rw [s4]
            obtain ⟨_, h3⟩ := fmin_spec (fun c => (askN (fellA r.Canopy true) r.Blows c : Int)) (truthsC r) r.Blows.length
            rcases h3 with h3 | ⟨c, hc, h3⟩
            · omega
            · rw [h3]
              have hl := casesS_len (truth_case hc)
              have hci : c[i]? = some (c[i]'(by omega)) := List.getElem?_eq_getElem (by omega)
              have h4 := hmin _ ((fm _).2 ⟨c, hc, hci⟩)
              have h5 := (stands_less hd hd ⟨rfl, rfl, rfl⟩ (fun j _ => Int.le_refl _) (fun j _ => Int.le_refl _) (f := c[i]'(by omega)) (f' := lo) (a := b.At) m0.1 h4).2 h2
              have h6 := askN_pos (a := fellA r.Canopy true) hbn hci (fell_t.2 h5)
              omega
          have k2 : standsI r.Canopy [⟨hi', b.At⟩] ≠ 1 → 1 ≤ (harmT r).1.High := fun h2 => by
            have h6 := askN_pos (a := fellA r.Canopy false) hbn hcMe (fell_f.2 h2)
            have := (s3 cM hcM).2
            omega
          rw [Bool.or_eq_false_iff]
          constructor
          · by_cases h2 : standsI r.Canopy [⟨lo, b.At⟩] = 2
            · have := k1 h2
              rw [if_neg (by omega), if_pos (by omega)]; simp
            · simp [h2]
          · by_cases h2 : standsI r.Canopy [⟨hi', b.At⟩] = 1
            · simp [h2]
            · have := k2 h2
              rw [if_neg (by omega)]
              split <;> simp
        rw [d2]
        simp only [Bool.false_eq_true, if_false]
        obtain ⟨s, hs1, hs2⟩ := rib_get (d := r.Canopy) hq
        have hsb := hd.ribs s hs2
        have e1 : w64 (s.Low + By) = s.Low + By := w64_id (by omega) (by omega)
        have e2 : w64 (s.High + By) = s.High + By := w64_id (by omega) (by omega)
        simp only [p_Copy13 hn hs, Option.bind_some, geti_nat r.Canopy.Ribs, hs1, e1, e2]
        generalize hY : Span.mk (min 99999 (s.Low + By)) (min 99999 (s.High + By)) = Y
        generalize hO : Canopy.mk r.Canopy.Frame (setx r.Canopy.Ribs (q : Int) Y) r.Canopy.Shares = o
        have oR : o.Ribs = setx r.Canopy.Ribs (q : Int) Y := by rw [← hO]
        have same : Same r.Canopy o := by rw [← hO]; exact ⟨rfl, rfl, setx_len _ _ _⟩
        have hdo : DOk o := by
          rw [← hO]
          refine ⟨hd.f, by simpa [setx_len] using hd.r, by simpa [setx_len] using hd.s, fun z hz => ?_, hd.sh⟩
          rcases setx_mem hz with rfl | hz
          · rw [← hY]; simp only; omega
          · exact hd.ribs z hz
        have hB : ∀ j, j < r.Canopy.Ribs.length → stB r.Canopy j ≤ stB o j := fun j hj => by
          rw [(setx_st hq oR j).1]
          split
          · rename_i hjr; subst hjr; rw [stB_get hs1, ← hY]; simp only; omega
          · omega
        have hW : ∀ j, j < r.Canopy.Ribs.length → stW r.Canopy j ≤ stW o j := fun j hj => by
          rw [(setx_st hq oR j).2]
          split
          · rename_i hjr; subst hjr; rw [stW_get hs1, ← hY]; simp only; omega
          · omega
        have hro : ROk (Run.mk o r.Blows r.Meters r.Wrong) := ⟨hdo, hr.nb, hr.nm, fun b hb => by
          obtain ⟨a1, a2, a3, a4, a5⟩ := hr.b b hb
          exact ⟨by rw [same.n]; exact a1, a2, a3, a4, a5⟩, hr.m, hr.w⟩
        have ht : truthsC (Run.mk o r.Blows r.Meters r.Wrong) = truthsC r := rfl
        have eo : errR (Run.mk o r.Blows r.Meters r.Wrong) true = 0 := by rw [errR_true hro, ht, ← errR_true hr]; exact e
        obtain ⟨_, _, _, _, t4, t5⟩ := harm_spec eo
        have hle : ∀ c ∈ truthsC r, ∀ s, askN (fellA o s) r.Blows c ≤ askN (fellA r.Canopy s) r.Blows c := fun c hc s => askN_mono fun p hp h => by
          have hz := zip_case (truth_case hc) hp
          have hb := hr.b _ hz.1
          have := hb.lo
          exact fell_less hd hdo same hB hW (by omega) (Int.le_refl _) s h
        have q1 : (harmT (Run.mk o r.Blows r.Meters r.Wrong)).1.Low ≤ (harmT r).1.Low := by
          rw [t4, s4, ht]
          exact fmin_le_of (fun c hc => ⟨c, hc, Int.ofNat_le.2 (hle c hc true)⟩) _
        have q2 : (harmT (Run.mk o r.Blows r.Meters r.Wrong)).1.High ≤ (harmT r).1.High := by
          rw [t5, s5, ht]
          exact fmax_le_of (fun c hc => ⟨c, hc, Int.ofNat_le.2 (hle c hc false)⟩) _
        simp only [p_Harm hn hro.small, Option.bind_some, harm_err, eo, decide_eq_true q1, decide_eq_true q2, beq_self_eq_true, Bool.and_self, if_true, hw]
      · simp [e, hw]
end Go.Proofs.Ytcipdblhopffbaa
end
section
namespace Go.Proofs.Ytcipdblhopffbaa
open Go Go.RowKit Go.Dec Go.ChangeShapes Go.WideShapes Go.ChangeAt
set_option linter.unusedVariables false
theorem cl_laidOut : laidOutB Try.prog = true := by kernel_rfl
theorem cl_own : ownKnob Try.prog.godebug = none := by kernel_rfl

set_option maxRecDepth 100000 in
set_option maxHeartbeats 1000000 in
theorem countsDome_contract (law : ∀ (x0 : Run) (x1 : law13_Stronger), W_Run x0 → W_law13_Stronger x1 → ∃ n, F_law13_CountsDome n x0 x1 = some true)
    (T : Type) (enc : TypeId × Value → T) (W : World) (base : Nat) (args : Array Value) (ds gs : List (DataW T)) (before : List MemPlace)
    (hval : ∀ (j : Nat) t v, Try.f4.params[j]? = some t → args[j]? = some v → Value.okWide Try.prog W .any base t v)
    (hW : DataW.Whole enc Try.prog Try.f4.params.toList Rows.countsDomeSpec.vars false W args.toList ds gs before) :
    Calls Try.prog 4 args W fun e W' => ∃ v, e = .returned v ∧ Rows.countsDomeSpec.post enc Try.prog Try.f4 false true false false W args v W' := by
  have hW' := hW
  obtain ⟨p, q, hA0, hV, rfl, hfz, hnd⟩ := hW
  have hA : DataW.TrodAll enc Try.prog W 0 (fun _ => true) true Try.f4.params.toList args.toList ds p := hA0
  rw [Try.params4] at hA hval
  obtain ⟨v0, vs0, d0, ds0, p0, q0, hargs, rfl, rfl, h0, r0⟩ := trodAll_cons hA
  obtain ⟨v1, vs1, d1, ds1, p1, q1, rfl, rfl, rfl, h1, r1⟩ := trodAll_cons r0
  obtain ⟨rfl, rfl, rfl⟩ := trodAll_nil r1
  obtain rfl : args = #[v0, v1] := by rw [← Array.toArray_toList (xs := args), hargs]
  obtain ⟨rfl, rfl⟩ := trodVars_none hV
  obtain ⟨cs0, rfl, hs0⟩ := okWide_struct Try.underlying34 (hval 0 34 v0 rfl rfl)
  obtain ⟨cs1, rfl, hs1⟩ := okWide_struct Try.underlying43 (hval 1 43 v1 rfl rfl)
  have k0 := h0
  obtain ⟨f0, e0⟩ := h0
  have k1 := h1
  obtain ⟨f1, e1⟩ := h1
  obtain ⟨_, x0, r0, w0⟩ := o_Run _ _ _ _ _ _ _ e0
  obtain ⟨_, x1, r1, w1⟩ := o_law13_Stronger _ _ _ _ _ _ _ e1
  obtain ⟨n, hn⟩ := law x0 x1 w0 w1
  obtain ⟨u0_0, u0_1, u0_2, u0_3, u0_4, q0, s0_0, s0_1, s0_2, s0_3, s0_4⟩ := r0
  have q0 : cs0.toList = _ := q0
  obtain rfl : cs0 = _ := by rw [← Array.toArray_toList (xs := cs0), q0]
  have q1 : cs1.toList = _ := r1
  obtain rfl : cs1 = _ := by rw [← Array.toArray_toList (xs := cs1), q1]
  have hlt : ∀ x ∈ p0 ++ (p1 ++ []), x.block < W.heap.size := fun x hx => hW'.lt x (by simpa using hx)
  refine ((c_law13_CountsDome n (hw W) x0 u0_0 s0_0 u0_1 s0_1 u0_2 s0_2 u0_3 s0_3 u0_4 s0_4 x1 true hn) W (hw_le W)).mono fun e W' ⟨he, hb0⟩ => ?_
  have hb := hb0.plain rfl
  subst he
  refine ⟨_, rfl, _, _, _, [], p0 ++ (p1 ++ []), [], hW', trodAll_cons_mk (shut_bool Try.underlying4 _) trodAll_mk0, ?_, rfl, hb.frame _, fun h => by cases h⟩
  exact trodAll_cons_mk (Below.trod cl_laidOut (by kernel_rfl) (of_decide_eq_true (by kernel_rfl)) k0 hb (fun x hx => hlt x (List.mem_append_left _ hx))) (trodAll_cons_mk (Below.trod cl_laidOut (by kernel_rfl) (of_decide_eq_true (by kernel_rfl)) k1 hb (fun x hx => hlt x (List.mem_append_right _ (List.mem_append_left _ hx)))) trodAll_mk0)

set_option maxRecDepth 100000 in
theorem countsDome_lifted (law : ∀ (x0 : Run) (x1 : law13_Stronger), W_Run x0 → W_law13_Stronger x1 → ∃ n, F_law13_CountsDome n x0 x1 = some true)
    (os : Os) (started : os.Started) (H : Type) (enc : TypeId × Value → H) :
    ReturnsInHanded {} Try.checked os 4 .any (Rows.countsDomeSpec.pre6 enc Try.prog Try.f4 Rows.countsDomeRow.domain false) (Rows.countsDomeSpec.post enc Try.prog Try.f4 false true false false) := by
  refine returnsInHanded_of_change (C := Try.checked) cl_own started (by kernel_rfl) Try.func4
    (ChangeSpec.witness6 (enc := enc) (C := Try.checked) false ⟨#[], #[.agg #[.slice none 0 0, .int .i64 0, .int .i64 0, .int .i64 0, .int .i64 0, .int .i64 0, .int .i64 0, .slice none 0 0, .slice none 0 0, .slice none 0 0, .slice none 0 0, .int .i64 0], .agg #[.int .i64 0, .int .i64 0, .int .i64 0]], []⟩ 8 (by kernel_rfl) (by kernel_rfl) (by kernel_rfl) (by kernel_rfl)) ?_
  intro W base args ds gs before hval hW _ _
  exact countsDome_contract law H enc W base args ds gs before hval hW

theorem countsDome_holds (law : ∀ (x0 : Run) (x1 : law13_Stronger), W_Run x0 → W_law13_Stronger x1 → ∃ n, F_law13_CountsDome n x0 x1 = some true) : Rows.CountsDomeSaid :=
  OpenClaim.holds_of_wide 4 Try.f4 rfl rfl rfl rfl rfl rfl rfl ⟨rfl, rfl, rfl, rfl, rfl⟩ rfl rfl rfl rfl rfl (by kernel_rfl) Try.func4 (by kernel_rfl)
    (of_decide_eq_true (by kernel_rfl)) (by unfold Func.isWrapper; first | (rw [if_pos (by decide +kernel)]; kernel_rfl) | (rw [if_neg (by decide +kernel)]; exact ⟨rfl, rfl⟩))
    (fun os started H enc _ => countsDome_lifted law os started H enc)
theorem countsDome_proved : Rows.CountsDomeSaid := countsDome_holds law_CountsDome
end Go.Proofs.Ytcipdblhopffbaa
end
