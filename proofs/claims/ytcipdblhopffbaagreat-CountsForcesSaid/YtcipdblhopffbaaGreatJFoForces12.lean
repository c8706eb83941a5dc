/-
  CountsForces holds of every input that can be given, without a condition.
-/
import Derived.Test.YtcipdblhopffbaaGreatJFoForces11
import Derived.OpenShut
import Derived.JoinedCond
section
namespace Go.Proofs.YtcipdblhopffbaaGreat
open Go Go.RowKit Go.Dec
set_option linter.unusedVariables false
theorem mem_cases : ∀ {bl : List Blow} {c : List Int}, c ∈ casesS bl ↔ c.length = bl.length ∧ ∀ (i : Nat) (b : Blow) (x : Int), bl[i]? = some b → c[i]? = some x → b.Force.Low ≤ x ∧ x ≤ b.Force.High
  | [], c => by
    constructor
    · intro h; simp [casesS] at h; subst h; simp
    · rintro ⟨h, _⟩
      have : c = [] := List.eq_nil_of_length_eq_zero h
      subst this; simp [casesS]
  | b :: bl, c => by
    simp only [casesS, List.mem_flatMap, List.mem_map]
    constructor
    · rintro ⟨f, hf, c', hc, rfl⟩
      obtain ⟨h1, h2⟩ := mem_cases.1 hc
      refine ⟨by simp [h1], fun i b' x hb hx => ?_⟩
      cases i with
      | zero =>
        simp only [List.getElem?_cons_zero, Option.some.injEq] at hb hx
        subst hb; subst hx
        exact span_mem'.1 hf
      | succ i =>
        simp only [List.getElem?_cons_succ] at hb hx
        exact h2 i b' x hb hx
    · rintro ⟨h1, h2⟩
      cases c with
      | nil => simp at h1
      | cons f c =>
        refine ⟨f, span_mem'.2 (h2 0 b f rfl rfl), c, mem_cases.2 ⟨by simpa using h1, fun i b' x hb hx => h2 (i + 1) b' x (by simpa using hb) (by simpa using hx)⟩, rfl⟩
theorem blowAt_of {r : Run} {i : Int} {b : Blow} (h : r.Blows[i.toNat]? = some b) : blowAt r i = b := by unfold blowAt; rw [h]; rfl
theorem fixed_ok {r : Run} (hr : ROk r) {i : Int} (h0 : 0 ≤ i) (h1 : i < r.Blows.length) {f : Int} (hf1 : (blowAt r i).Force.Low ≤ f) (hf2 : f ≤ (blowAt r i).Force.High) : ROk (fixedS r i f) := by
  have hi : i.toNat < r.Blows.length := by omega
  have e : r.Blows[i.toNat]? = some r.Blows[i.toNat] := List.getElem?_eq_getElem hi
  have hb := hr.b _ (List.getElem_mem hi)
  rw [blowAt_of e] at hf1 hf2
  refine ⟨hr.d, by simpa [fixedS, setx] using hr.nb, hr.nm, fun b h => ?_, hr.m, hr.w⟩
  simp only [fixedS, setx] at h
  rcases List.mem_or_eq_of_mem_set h with h | rfl
  · exact hr.b b h
  · have := hb.lo; have := hb.hi
    exact ⟨by simp only [blowAt_of e]; exact hb.at_, by simp only; omega, by simp only; omega, by simp only; omega, by simp only; omega⟩
theorem fixed_cases {r : Run} {i : Int} (h0 : 0 ≤ i) (h1 : i < r.Blows.length) {f : Int} (hf1 : (blowAt r i).Force.Low ≤ f) (hf2 : f ≤ (blowAt r i).Force.High) {c : List Int} : c ∈ casesS (fixedS r i f).Blows ↔ c ∈ casesS r.Blows ∧ c[i.toNat]? = some f := by
  have hi : i.toNat < r.Blows.length := by omega
  have e : r.Blows[i.toNat]? = some r.Blows[i.toNat] := List.getElem?_eq_getElem hi
  rw [mem_cases, mem_cases]
  simp only [fixedS, setx, List.length_set]
  rw [blowAt_of e] at hf1 hf2 ⊢
  constructor
  · rintro ⟨hl, h⟩
    have hf : c[i.toNat]? = some f := by
      have hc : c[i.toNat]? = some (c[i.toNat]'(by omega)) := List.getElem?_eq_getElem (by omega)
      have := h i.toNat ⟨r.Blows[i.toNat].At, ⟨f, f⟩⟩ _ (by rw [List.getElem?_set, if_pos rfl, if_pos hi]) hc
      simp only at this
      rw [hc]; congr 1; omega
    refine ⟨⟨hl, fun j b x hb hx => ?_⟩, hf⟩
    by_cases hj : i.toNat = j
    · subst hj
      rw [e] at hb; cases hb
      rw [hf] at hx; cases hx
      exact ⟨hf1, hf2⟩
    · exact h j b x (by rw [List.getElem?_set_ne hj]; exact hb) hx
  · rintro ⟨⟨hl, h⟩, hf⟩
    refine ⟨hl, fun j b x hb hx => ?_⟩
    by_cases hj : i.toNat = j
    · subst hj
      rw [List.getElem?_set, if_pos rfl, if_pos hi] at hb
      cases hb
      rw [hf] at hx; cases hx
      exact ⟨Int.le_refl _, Int.le_refl _⟩
    · rw [List.getElem?_set_ne hj] at hb
      exact h j b x hb hx
theorem fixed_truths {r : Run} {i : Int} (h0 : 0 ≤ i) (h1 : i < r.Blows.length) {f : Int} (hf1 : (blowAt r i).Force.Low ≤ f) (hf2 : f ≤ (blowAt r i).Force.High) {c : List Int} : c ∈ truthsC (fixedS r i f) ↔ c ∈ truthsC r ∧ c[i.toNat]? = some f := by
  unfold truthsC
  rw [List.mem_filter, List.mem_filter, fixed_cases h0 h1 hf1 hf2]
  constructor
  · rintro ⟨⟨a, b⟩, c⟩; exact ⟨⟨a, c⟩, b⟩
  · rintro ⟨⟨a, c⟩, b⟩; exact ⟨⟨a, b⟩, c⟩
theorem fixed_err {r : Run} (hr : ROk r) {i : Int} (h0 : 0 ≤ i) (h1 : i < r.Blows.length) {f : Int} (hf1 : (blowAt r i).Force.Low ≤ f) (hf2 : f ≤ (blowAt r i).Force.High) : errR (fixedS r i f) true = 0 ↔ ∃ c ∈ truthsC r, c[i.toNat]? = some f := by
  rw [errR_true (fixed_ok hr h0 h1 hf1 hf2)]
  constructor
  · intro h
    split at h
    · cases h
    · rename_i hne
      obtain ⟨c, hc⟩ := List.exists_mem_of_ne_nil _ hne
      exact ⟨c, (fixed_truths h0 h1 hf1 hf2).1 hc⟩
  · rintro ⟨c, hc⟩
    rw [if_neg (fun e => by have := (fixed_truths h0 h1 hf1 hf2).2 hc; rw [e] at this; cases this)]
theorem truth_case {r : Run} {c : List Int} (h : c ∈ truthsC r) : c ∈ casesS r.Blows := (List.mem_filter.1 h).1
/-- the forces that a blow can have -/
theorem forces_mem {r : Run} (hr : ROk r) {i : Int} (h0 : 0 ≤ i) (h1 : i < r.Blows.length) {f : Int} : f ∈ forcesL r i ↔ ∃ c ∈ truthsC r, c[i.toNat]? = some f := by
  unfold forcesL
  rw [List.mem_filter, span_mem']
  constructor
  · rintro ⟨⟨a, b⟩, h⟩
    exact (fixed_err hr h0 h1 a b).1 (by simpa using h)
  · rintro ⟨c, hc, hf⟩
    have hi : i.toNat < r.Blows.length := by omega
    have e : r.Blows[i.toNat]? = some r.Blows[i.toNat] := List.getElem?_eq_getElem hi
    have := (mem_cases.1 (truth_case hc)).2 i.toNat _ f e hf
    rw [blowAt_of e]
    refine ⟨this, ?_⟩
    have h2 := (fixed_err hr h0 h1 (f := f) (by rw [blowAt_of e]; exact this.1) (by rw [blowAt_of e]; exact this.2)).2 ⟨c, hc, hf⟩
    simpa using h2
theorem span_sorted (a b : Int) : (span a b).Pairwise (· < ·) := by
  unfold span
  rw [List.pairwise_map]
  have : (List.range (b + 1 - a).toNat).Pairwise (· < ·) := List.pairwise_lt_range
  exact this.imp fun h => by omega
theorem forces_sorted (r : Run) (i : Int) : (forcesL r i).Pairwise (· < ·) := (span_sorted _ _).filter _
theorem forces_len {r : Run} (hr : ROk r) {i : Int} (h0 : 0 ≤ i) (h1 : i < r.Blows.length) : (forcesL r i).length ≤ 10 := by
  have hi : i.toNat < r.Blows.length := by omega
  have e : r.Blows[i.toNat]? = some r.Blows[i.toNat] := List.getElem?_eq_getElem hi
  have := (hr.b _ (List.getElem_mem hi)).gap
  refine Nat.le_trans (List.length_filter_le _ _) ?_
  rw [span_len, blowAt_of e]; omega
theorem len_le_total {L : List (List Int)} {T : Mp} (h : RM L T) : T.length ≤ L.length := by
  have h1 := h.total
  have : ∀ T : Mp, (∀ p ∈ T, 0 < p.2) → (T.length : Int) ≤ (T.map (·.2)).sum := by
    intro T
    induction T with
    | nil => intro _; simp
    | cons p T ih =>
      intro h
      have := h p (List.mem_cons_self ..)
      have := ih fun q hq => h q (List.mem_cons_of_mem _ hq)
      simp only [List.map_cons, List.sum_cons, List.length_cons]; omega
  have := this T h.pos
  omega
theorem rightX_read {r : Run} (hm : r.Meters.length ≤ 5) {a : Blow → Int → Bool} {c : List Int} (hc : c ∈ casesS r.Blows) {i : Int} (h0 : 0 ≤ i) (h1 : i < r.Meters.length) : ((readS r.Meters a r.Blows c zeroX).getD i.toNat 0 == (meterAt r i).Count) = rightC (meterAt r i) c := by
  have hi : i.toNat < r.Meters.length := by omega
  have e : r.Meters[i.toNat]? = some r.Meters[i.toNat] := List.getElem?_eq_getElem hi
  unfold meterAt rightC
  rw [e, readS_at hm hc e]; rfl
section
variable {n : Nat} (hn : 100000000 ≤ n)
include hn
omit hn in
theorem right_count {m : Int} {w : counts_test} (q : List Int → Bool) (T : Mp) (hq : ∀ p ∈ T, F_counts_test_right n w p.1 m = some (q p.1)) : ∀ (l : Mp) (s : Int), (∀ p ∈ l, p ∈ T) → 0 ≤ s → s + l.length ≤ 1000000000 → foldP (F_counts_Right_s1 n m w) s l = some (s + (l.countP fun p => q p.1 : Nat))
  | [], s, _, _, _ => by simp [foldP]
  | p :: l, s, h, h0, hb => by
    have hp := hq p (h p (List.mem_cons_self ..))
    simp only [List.length_cons] at hb
    obtain ⟨x, v⟩ := p
    simp only at hp
    rw [foldP, F_counts_Right_s1, hp]
    simp only [Option.bind_some, List.countP_cons]
    cases q x with
    | true =>
      simp only [if_true, Option.bind_some]
      rw [w64_id (by omega) (by omega), right_count q T hq l (s + 1) (fun z hz => h z (List.mem_cons_of_mem _ hz)) (by omega) (by omega)]
      congr 1; omega
    | false =>
      simp only [Bool.false_eq_true, if_false, Option.bind_some]
      rw [right_count q T hq l s (fun z hz => h z (List.mem_cons_of_mem _ hz)) (by omega) (by omega)]
      congr 1
theorem p_Right {r : Run} (hs : SmallR r) (i : Int) : F_counts_Right n r i = some (rightT r i) := by
  simp only [F_counts_Right, p_cwithin, Option.bind_some]
  rw [w64_id (by have := hs.2.2; omega) (by have := hs.2.2; omega)]
  simp only [p_openN hn hs, Option.bind_some, rightT]
  by_cases h : errR r (wi i 0 ((r.Meters.length : Int) - 1)) = 0
  · rw [if_pos h, if_pos h]
    obtain ⟨hr, hw, hne⟩ := errR_ok h
    have hi := wi_t.1 hw
    have hT := tally_ok (trs r fun _ _ => false)
    have hx : ∀ p ∈ tally (trs r fun _ _ => false), ∃ c ∈ truthsC r, p.1 = readS r.Meters (fun _ _ => false) r.Blows c zeroX := fun p hp => by
      have h1 := hT.key.1 ⟨p.2, hp⟩
      rw [trs_eq hr.nm] at h1
      obtain ⟨c, hc, e⟩ := List.mem_map.1 h1
      exact ⟨c, hc, e.symm⟩
    have h6 : ∀ p ∈ tally (trs r fun _ _ => false), p.1.length = 6 := fun p hp => (xok_of hr.nb p.1 (List.mem_filter.1 (hT.key.1 ⟨p.2, hp⟩)).1).1
    have hq : ∀ p ∈ tally (trs r fun _ _ => false), F_counts_test_right n ⟨r, fun a0_ a1_ => F_counts_none n a0_ a1_⟩ p.1 i = some (p.1.getD i.toNat 0 == (meterAt r i).Count) := fun p hp => by
      have := p_right hn (asked := fun a0_ a1_ => F_counts_none n a0_ a1_) (h6 p hp) hr.nm (i := i.toNat) (by omega)
      rw [show ((i.toNat : Nat) : Int) = i by omega] at this
      exact this
    have hlen : (tally (trs r fun _ _ => false)).length ≤ 100000000 := by
      have h1 := len_le_total hT
      have h2 : (trs r fun _ _ => false).length = (truthsC r).length := by rw [trs_eq hr.nm]; simp
      have := truths_len hr
      omega
    have hP : permO (F_counts_Right_s1 n i ⟨r, fun a0_ a1_ => F_counts_none n a0_ a1_⟩) 0 (tally (trs r fun _ _ => false)) = some (((tally (trs r fun _ _ => false)).countP fun p => p.1.getD i.toNat 0 == (meterAt r i).Count : Nat) : Int) := permO_of fun l hl => by
      rw [right_count (fun x => x.getD i.toNat 0 == (meterAt r i).Count) _ hq l 0 (fun p hp => hl.mem_iff.1 hp) (Int.le_refl _) (by rw [hl.length_eq]; omega), hl.countP_eq, Int.zero_add]
    simp only [bne_self_eq_false, Bool.false_eq_true, if_false, trs_ne h, Option.bind_some, hP]
    have all_iff : ((tally (trs r fun _ _ => false)).countP fun p => p.1.getD i.toNat 0 == (meterAt r i).Count) = (tally (trs r fun _ _ => false)).length ↔ ((truthsC r).all (rightC (meterAt r i))) = true := by
      rw [List.countP_eq_length, List.all_eq_true]
      constructor
      · intro h c hc
        obtain ⟨v, hv⟩ := hT.key.2 (show readS r.Meters (fun _ _ => false) r.Blows c zeroX ∈ _ by rw [trs_eq hr.nm]; exact List.mem_map.2 ⟨c, hc, rfl⟩)
        have := h _ hv
        rwa [rightX_read hr.nm (truth_case hc) hi.1 (by omega)] at this
      · intro h p hp
        obtain ⟨c, hc, e⟩ := hx p hp
        rw [e, rightX_read hr.nm (truth_case hc) hi.1 (by omega)]
        exact h c hc
    have none_iff : ((tally (trs r fun _ _ => false)).countP fun p => p.1.getD i.toNat 0 == (meterAt r i).Count) = 0 ↔ ((truthsC r).all fun c => !rightC (meterAt r i) c) = true := by
      rw [List.countP_eq_zero, List.all_eq_true]
      constructor
      · intro h c hc
        obtain ⟨v, hv⟩ := hT.key.2 (show readS r.Meters (fun _ _ => false) r.Blows c zeroX ∈ _ by rw [trs_eq hr.nm]; exact List.mem_map.2 ⟨c, hc, rfl⟩)
        have := h _ hv
        rw [rightX_read hr.nm (truth_case hc) hi.1 (by omega)] at this
        simpa using this
      · intro h p hp
        obtain ⟨c, hc, e⟩ := hx p hp
        rw [e, rightX_read hr.nm (truth_case hc) hi.1 (by omega)]
        simpa using h c hc
    generalize (List.countP (fun p : List Int × Int => p.1.getD i.toNat 0 == (meterAt r i).Count) (tally (trs r fun _ _ => false))) = K at all_iff none_iff ⊢
    generalize (tally (trs r fun _ _ => false)).length = Z at all_iff ⊢
    by_cases h1 : ((truthsC r).all (rightC (meterAt r i))) = true
    · rw [if_pos h1]
      have e : ((K : Int) == (Z : Int)) = true := by rw [all_iff.2 h1]; exact beq_self_eq_true _
      rw [e]; rfl
    · rw [if_neg h1]
      have e : ((K : Int) == (Z : Int)) = false := by
        rw [beq_eq_false_iff_ne]; intro e; exact h1 (all_iff.1 (by omega))
      rw [e]
      simp only [Bool.false_eq_true, if_false]
      by_cases h2 : ((truthsC r).all fun c => !rightC (meterAt r i) c) = true
      · rw [if_pos h2]
        have e : ((K : Int) == 0) = true := by rw [none_iff.2 h2]; rfl
        rw [e]; rfl
      · rw [if_neg h2]
        have e : ((K : Int) == 0) = false := by
          rw [beq_eq_false_iff_ne]; intro e; exact h2 (none_iff.1 (by omega))
        rw [e]; rfl
  · rw [if_neg h, if_neg h]
    have e : (errR r (wi i 0 ((r.Meters.length : Int) - 1)) != 0) = true := by simpa using h
    simp only [e, if_true]
theorem p_fixed {r : Run} (hs : SmallR r) {i : Int} (h0 : 0 ≤ i) (h1 : i < r.Blows.length) (f : Int) : F_counts_fixed n r i f = some (fixedS r i f) := by
  have _hn := hn
  have hi : i.toNat < r.Blows.length := by omega
  have e : r.Blows[i.toNat]? = some r.Blows[i.toNat] := List.getElem?_eq_getElem hi
  have hg : geti r.Blows i = some r.Blows[i.toNat] := by unfold geti; rw [if_pos h0, e]
  have hl : F_slices_Clone___api_Blow_api_Blow_ n r.Blows = some r.Blows := lim_ok (by have := hs.2.1; omega)
  simp only [F_counts_fixed, hl, Option.bind_some, hg, fixedS, blowAt_of e]
theorem p_Forces {r : Run} (hs : SmallR r) (i : Int) : F_counts_Forces n r i = some (forcesT r i) := by
  simp only [F_counts_Forces, p_cwithin, Option.bind_some]
  rw [w64_id (by have := hs.2.1; omega) (by have := hs.2.1; omega)]
  simp only [p_openN hn hs, Option.bind_some, forcesT]
  by_cases h : errR r (wi i 0 ((r.Blows.length : Int) - 1)) = 0
  · rw [if_pos h, if_pos h]
    obtain ⟨hr, hw, hne⟩ := errR_ok h
    have hi := wi_t.1 hw
    have h1 : i < r.Blows.length := by omega
    have hi' : i.toNat < r.Blows.length := by omega
    have e : r.Blows[i.toNat]? = some r.Blows[i.toNat] := List.getElem?_eq_getElem hi'
    have hg : geti r.Blows i = some (blowAt r i) := by unfold geti; rw [if_pos hi.1, e, blowAt_of e]
    have hb := hr.b _ (List.getElem_mem hi')
    rw [← blowAt_of e] at hb
    have hlo := hb.lo; have hhi := hb.hi; have hgap := hb.gap
    have hl := loop_span_fold (step := F_counts_Forces_s1 n r i) (fun f (out : List Int) => (f, out)) (fun out f => if (errR (fixedS r i f) true == 0) = true then out ++ [f] else out) (fun out => out) (fun f out => (out.length : Int) ≤ f - (blowAt r i).Force.Low) (hi := (blowAt r i).Force.High) _ (blowAt r i).Force.Low [] n rfl (by simp) (fun f out h2 h3 hI => by
      have hsF : SmallR (fixedS r i f) := ⟨hs.1, by simpa [fixedS, setx] using hs.2.1, hs.2.2⟩
      simp only [F_counts_Forces_s1, hg, Option.bind_some, h3, decide_true, if_true, p_fixed hn hs hi.1 h1, p_openN hn hsF]
      rw [w64_id (by omega) (by omega)]
      by_cases he : errR (fixedS r i f) true = 0
      · have hlim : lim (out ++ [f]) = some (out ++ [f]) := lim_ok (by simp; omega)
        simp only [he, if_true, beq_self_eq_true, hlim, Option.bind_some]
        refine ⟨by first | rfl | trivial, ?_⟩
        rw [List.length_append]; simp; omega
      · have e2 : (errR (fixedS r i f) true == 0) = false := by simpa using he
        simp only [he, if_false, e2, Bool.false_eq_true, Option.bind_some]
        exact ⟨by first | rfl | trivial, by omega⟩) (fun f out h2 h3 hI => by
      simp only [F_counts_Forces_s1, hg, Option.bind_some]
      rw [show decide (f ≤ (blowAt r i).Force.High) = false from decide_eq_false (by omega)]
      rfl) (by omega)
    simp only [bne_self_eq_false, Bool.false_eq_true, if_false, hg, Option.bind_some, hl.1, foldl_filter_append, List.nil_append]
    rfl
  · rw [if_neg h, if_neg h]
    have e : (errR r (wi i 0 ((r.Blows.length : Int) - 1)) != 0) = true := by simpa using h
    simp only [e, if_true]
omit hn in
theorem sameI_spec (a b : List Int) : (decide (a.length = b.length) && (List.range a.length).all fun i => a[i]? == b[i]?) = decide (a = b) := by
  rw [Bool.eq_iff_iff]
  simp only [Bool.and_eq_true, decide_eq_true_eq, List.all_eq_true, List.mem_range, beq_iff_eq]
  constructor
  · rintro ⟨h1, h2⟩
    apply List.ext_getElem?
    intro i
    by_cases hi : i < a.length
    · exact h2 i hi
    · rw [List.getElem?_eq_none (by omega), List.getElem?_eq_none (by omega)]
  · rintro rfl; exact ⟨rfl, fun _ _ => rfl⟩
theorem p_sameI {a b : List Int} (ha : a.length ≤ 1000) : F_law13_sameInts n a b = some (decide (a = b)) := by
  rw [← sameI_spec]
  unfold F_law13_sameInts
  by_cases h : a.length = b.length
  · have e : ((a.length : Int) != (b.length : Int)) = false := by simp [h]
    rw [e]
    simp only [Bool.false_eq_true, if_false]
    have kk := loop_all (step := F_law13_sameInts_s1 n a b) a.length (fun i => a[i]? == b[i]?) false (n := n) (by omega) (fun i hi => ?_) ?_ (by omega)
    · rw [kk]
      cases ((List.range a.length).all fun i => a[i]? == b[i]?) <;> simp [h]
    · have h1 : a[i]? = some a[i] := List.getElem?_eq_getElem hi
      have h2 : b[i]? = some (b[i]'(by omega)) := List.getElem?_eq_getElem (by omega)
      simp only [F_law13_sameInts_s1, lt_nat, hi, decide_true, if_true, geti_nat, h1, h2, Option.bind_some, w64_nat (show i ≤ 4611686018427387904 by omega)]
      by_cases hab : a[i] = b[i]'(by omega)
      · simp [hab]
      · have e1 : (a[i] != b[i]'(by omega)) = true := by simpa using hab
        have e2 : (a[i] == b[i]'(by omega)) = false := by simpa using hab
        simp [e1, hab, e2]
    · simp [F_law13_sameInts_s1]
  · have e : ((a.length : Int) != (b.length : Int)) = true := by simp; omega
    rw [e]; simp [h]
theorem p_Copy13 {r : Run} (hs : SmallR r) : F_ref13_Copy n r = some r := by
  simp only [F_ref13_Copy, p_Copy05 hn hs.1, Option.bind_some, List.nil_append]
  rw [lim_ok (by have := hs.2.1; omega), lim_ok (by have := hs.2.2; omega)]
  rfl
theorem p_Far13 (r : Run) : F_law13_Far n r = some true ∨ (F_law13_Far n r = some false ∧ SmallR r ∧ r.Blows.length ≤ 40 ∧ r.Meters.length ≤ 40) := by
  unfold F_law13_Far
  rcases p_Far hn r.Canopy with h | ⟨h, hs, h1, h2, h3⟩
  · left; rw [h]; rfl
  · rw [h]
    simp only [Option.bind_some, Bool.false_or]
    by_cases h4 : 40 < (r.Blows.length : Int)
    · left; simp [h4]
    · by_cases h5 : 40 < (r.Meters.length : Int)
      · left; simp [h5]
      · have hsr : SmallR r := ⟨hs, by omega, by omega⟩
        have e4 : decide (40 < (r.Blows.length : Int)) = false := decide_eq_false h4
        have e5 : decide (40 < (r.Meters.length : Int)) = false := decide_eq_false h5
        simp only [e4, e5, Bool.false_or, Bool.false_eq_true, if_false, p_Check13 hn hsr, Option.bind_some]
        by_cases h6 : checkR r = 0
        · have hr := checkR_ok.1 h6
          have e6 : (checkR r != 0) = false := by simp [h6]
          rw [e6]
          simp only [Bool.false_eq_true, if_false]
          have key : ∀ (k i : Nat) (m : Int) (fuel : Nat), i + k = r.Blows.length → 1 ≤ m → m ≤ 600 → k < fuel → ∃ v, loopO fuel (F_law13_Far_s1 n r) (m, (i : Int)) = some v ∧ (v = .inl true ∨ v = .inr ()) := by
            intro k
            induction k with
            | zero =>
              intro i m fuel hi _ _ hf
              refine ⟨.inr (), loop_done ?_ hf, .inr rfl⟩
              have : i = r.Blows.length := by omega
              subst this
              simp [F_law13_Far_s1]
            | succ k ih =>
              intro i m fuel hi h1 h2 hf
              obtain ⟨fuel, rfl⟩ : ∃ k, fuel = k + 1 := ⟨fuel - 1, by omega⟩
              have hlt : i < r.Blows.length := by omega
              have e : r.Blows[i]? = some r.Blows[i] := List.getElem?_eq_getElem hlt
              have hb := hr.b _ (List.getElem_mem hlt)
              have hg := hb.gap; have hle := hb.le; have := hb.lo; have := hb.hi
              have hm1 := mul_in (x := m) (y := r.Blows[i].Force.High - r.Blows[i].Force.Low + 1) (A := 600) (C := 10) (by omega) h2 (by omega) (by omega)
              have hm2 : 1 ≤ m * (r.Blows[i].Force.High - r.Blows[i].Force.Low + 1) := by
                have := Int.mul_le_mul h1 (show 1 ≤ r.Blows[i].Force.High - r.Blows[i].Force.Low + 1 by omega) (by omega) (by omega)
                omega
              rw [loopO_succ]
              simp only [F_law13_Far_s1, lt_nat, hlt, decide_true, if_true, geti_nat, e, Option.bind_some]
              rw [w64_id (n := r.Blows[i].Force.High - r.Blows[i].Force.Low) (by omega) (by omega), w64_id (n := r.Blows[i].Force.High - r.Blows[i].Force.Low + 1) (by omega) (by omega), w64_id (by omega) (by omega), w64_nat (show i ≤ 4611686018427387904 by have := hr.nb; omega)]
              by_cases hbig : 600 < m * (r.Blows[i].Force.High - r.Blows[i].Force.Low + 1)
              · rw [if_pos (by simpa using hbig)]
                exact ⟨_, rfl, .inl rfl⟩
              · rw [if_neg (by simpa using hbig)]
                exact ih (i + 1) _ fuel (by omega) hm2 (by omega) (by omega)
          obtain ⟨v, hv, hv2⟩ := key r.Blows.length 0 1 n (by omega) (by omega) (by omega) (by have := hr.nb; omega)
          simp only [Int.natCast_zero] at hv
          rw [hv]
          rcases hv2 with rfl | rfl
          · left; rfl
          · right; exact ⟨rfl, hsr, by omega, by omega⟩
        · right
          have e6 : (checkR r != 0) = true := by simpa using h6
          rw [e6]
          exact ⟨rfl, hsr, by omega, by omega⟩
end
def exR : Run := ⟨exD, [⟨0, ⟨10, 14⟩⟩, ⟨0, ⟨12, 15⟩⟩, ⟨3, ⟨4, 6⟩⟩], [⟨13, 1⟩, ⟨5, 3⟩], 0⟩
set_option maxRecDepth 1000000 in
theorem ex_small : SmallR exR := by refine ⟨⟨?_, ?_, ?_⟩, ?_, ?_⟩ <;> decide
set_option maxRecDepth 1000000 in
theorem ex_forces : forcesT exR 2 = ([5, 6], 0) := by kernel_rfl
set_option maxRecDepth 1000000 in
theorem ex_many : manyC exR = (22, 0) := by kernel_rfl
set_option maxRecDepth 1000000 in
theorem ex_harm : harmT exR = (⟨0, 2⟩, 0) := by kernel_rfl
theorem ex_err : errR exR true = 0 := by
  have h := ex_many
  unfold manyC at h
  split at h
  · assumption
  · rename_i hne
    simp only [Prod.mk.injEq] at h
    exact absurd h.2 hne
theorem ex_stood : stoodT exR = (3, 0) := by
  unfold stoodT
  rw [if_pos ex_err, ex_harm]; rfl
theorem ex_of (n : Nat) : F_law13_Example n = some exR := rfl
theorem works13 {n : Nat} (hn : 100000000 ≤ n) : F_law13_works n = some true := by
  simp only [F_law13_works, ex_of, Option.bind_some, p_Forces hn ex_small, p_Many hn ex_small, p_Harm hn ex_small, p_Stood hn ex_small, ex_forces, ex_many, ex_harm, ex_stood, p_sameI hn (a := [5, 6]) (b := [5, 6]) (by decide)]
  rfl
end Go.Proofs.YtcipdblhopffbaaGreat
end
section
namespace Go.Proofs.YtcipdblhopffbaaGreat
open Go Go.RowKit Go.Dec
set_option linter.unusedVariables false
theorem askN_le (a : Blow → Int → Bool) (bl : List Blow) (c : List Int) : askN a bl c ≤ bl.length := by
  unfold askN
  refine Nat.le_trans List.countP_le_length ?_
  rw [List.length_zip]; omega
end Go.Proofs.YtcipdblhopffbaaGreat
end
section
namespace Go.Proofs.YtcipdblhopffbaaGreat
open Go Go.RowKit Go.Dec
/-- a loop over a span -/
theorem loop_span {σ ρ : Type} {step : Int × σ → Option ((Int × σ) ⊕ ρ)} {hi : Int} (g : σ → Int → σ) (fin : σ → ρ) (I : Int → σ → Prop) : ∀ (k : Nat) (lo : Int) (s : σ) (n : Nat), (hi + 1 - lo).toNat = k → I lo s →
    (∀ b s, lo ≤ b → b ≤ hi → I b s → step (b, s) = some (.inl (b + 1, g s b)) ∧ I (b + 1) (g s b)) → (∀ b s, hi < b → step (b, s) = some (.inr (fin s))) → k < n →
    loopO n step (lo, s) = some (fin ((span lo hi).foldl g s)) := by
  intro k
  induction k with
  | zero =>
    intro lo s n hk _ _ hd hn
    rw [span_nil (by omega)]
    exact loop_done (hd lo s (by omega)) hn
  | succ k ih =>
    intro lo s n hk hI h hd hn
    obtain ⟨m, rfl⟩ : ∃ k, n = k + 1 := ⟨n - 1, by omega⟩
    obtain ⟨h1, h2⟩ := h lo s (Int.le_refl _) (by omega) hI
    rw [loopO_succ, h1, span_cons (by omega), List.foldl_cons]
    exact ih (lo + 1) _ m (by omega) h2 (fun b s hb => h b s (by omega)) hd (by omega)
theorem foldl_app {α β : Type} (g : α → List β) : ∀ (l : List α) (s : List β), l.foldl (fun s x => s ++ g x) s = s ++ l.flatMap g
  | [], s => by simp
  | a :: l, s => by rw [List.foldl_cons, foldl_app g l, List.flatMap_cons, List.append_assoc]
theorem foldl_cnt {α : Type} (p : α → Bool) : ∀ (l : List α) (s : Nat), l.foldl (fun s x => if p x = true then s + 1 else s) s = s + l.countP p
  | [], s => by simp
  | a :: l, s => by
    rw [List.foldl_cons, foldl_cnt p l, List.countP_cons]
    cases p a <;> simp <;> omega
theorem foldl_filter' {α : Type} (p : α → Bool) : ∀ (l s : List α), l.foldl (fun s x => if p x = true then s ++ [x] else s) s = s ++ l.filter p
  | [], s => by simp
  | a :: l, s => by
    rw [List.foldl_cons, foldl_filter' p l, List.filter_cons]
    cases p a <;> simp
theorem askN_readsA {limit : Int} : ∀ {bl : List Blow} {c : List Int}, c.length = bl.length → askN (readsA limit) bl c = aboveS c limit
  | [], [], _ => rfl
  | [], _ :: _, h => by simp at h
  | _ :: _, [], h => by simp at h
  | b :: bl, f :: c, h => by
    have ih := askN_readsA (limit := limit) (bl := bl) (c := c) (by simpa using h)
    unfold askN aboveS at ih ⊢
    rw [List.zip_cons_cons, List.countP_cons, List.countP_cons, ih]
    rfl
theorem cases_small : ∀ (bl : List Blow), (∀ b ∈ bl, b.Force.High - b.Force.Low ≤ 9) → (casesS bl).length ≤ 10 ^ bl.length
  | [], _ => by simp [casesS]
  | b :: bl, h => by
    have ih := cases_small bl fun x hx => h x (List.mem_cons_of_mem _ hx)
    have hb := h b (List.mem_cons_self ..)
    unfold casesS
    have h1 := flatMap_len (l := span b.Force.Low b.Force.High) (f := fun f => (casesS bl).map fun c => f :: c) (c := (casesS bl).length) fun x _ => by simp
    rw [span_len] at h1
    rw [List.length_cons, Nat.pow_succ, Nat.mul_comm]
    refine Nat.le_trans h1 (Nat.mul_le_mul (by omega) ih)
section
variable {n : Nat} (hn : 200000000 ≤ n)
include hn
theorem p_cases {r : Run} (hr : ROk r) : ∀ (k : Nat) (first : List Int) (m : Nat), first.length + k = r.Blows.length → 100000000 + k < m → F_ref13_cases m r first = some ((casesS (r.Blows.drop first.length)).map (first ++ ·)) := by
  have _hn := hn
  have hnb := hr.nb
  intro k
  induction k with
  | zero =>
    intro first m hk hm
    obtain ⟨m, rfl⟩ : ∃ k, m = k + 1 := ⟨m - 1, by omega⟩
    have e : ((first.length : Int) == (r.Blows.length : Int)) = true := by simp; omega
    simp only [F_ref13_cases, e, if_true]
    rw [List.drop_eq_nil_of_le (by omega)]
    simp [casesS]
  | succ k ih =>
    intro first m hk hm
    obtain ⟨m, rfl⟩ : ∃ k, m = k + 1 := ⟨m - 1, by omega⟩
    have e : ((first.length : Int) == (r.Blows.length : Int)) = false := by simp; omega
    have hlt : first.length < r.Blows.length := by omega
    have hb := hr.b _ (List.getElem_mem hlt)
    have hbl := hb.le; have hbg := hb.gap; have hb0 := hb.lo; have hbh := hb.hi
    have hgt : geti r.Blows (first.length : Int) = some r.Blows[first.length] := by rw [geti_nat]; exact List.getElem?_eq_getElem hlt
    simp only [F_ref13_cases, e, Bool.false_eq_true, if_false, hgt, Option.bind_some]
    generalize hB : r.Blows[first.length] = b at *
    have hc : (casesS (r.Blows.drop (first.length + 1))).length ≤ 10000000 := by
      have h1 := cases_small (r.Blows.drop (first.length + 1)) fun x hx => (hr.b x (List.mem_of_mem_drop hx)).gap
      have h2 : (r.Blows.drop (first.length + 1)).length ≤ 7 := by rw [List.length_drop]; omega
      have h3 : (10 : Nat) ^ (r.Blows.drop (first.length + 1)).length ≤ 10 ^ 7 := Nat.pow_le_pow_right (by omega) h2
      omega
    have hl := loop_span (step := F_ref13_cases_s1 m (F_ref13_cases m) r first b) (hi := b.Force.High) (fun s f => s ++ (casesS (r.Blows.drop (first.length + 1))).map ((first ++ [f]) ++ ·)) (fun s => s)
      (fun f s => b.Force.Low ≤ f ∧ s.length ≤ (f - b.Force.Low).toNat * (casesS (r.Blows.drop (first.length + 1))).length) _ b.Force.Low [] m rfl ⟨Int.le_refl _, by simp⟩ (fun f s h1 h2 hI => by
        have k1 : (f - b.Force.Low).toNat * (casesS (r.Blows.drop (first.length + 1))).length ≤ 9 * 10000000 := Nat.mul_le_mul (by omega) hc
        have k2 : (f + 1 - b.Force.Low).toNat = (f - b.Force.Low).toNat + 1 := by omega
        have k3 := hI.2
        have e1 : lim (([] : List Int) ++ first) = some first := by rw [List.nil_append]; exact lim_ok (by omega)
        have e2 : lim (first ++ [f]) = some (first ++ [f]) := lim_ok (by simp; omega)
        have e3 := ih (first ++ [f]) m (by simp; omega) (by omega)
        have e4 : (first ++ [f]).length = first.length + 1 := by simp
        rw [e4] at e3
        have e5 : lim (s ++ (casesS (r.Blows.drop (first.length + 1))).map ((first ++ [f]) ++ ·)) = some (s ++ (casesS (r.Blows.drop (first.length + 1))).map ((first ++ [f]) ++ ·)) := lim_ok (by rw [List.length_append, List.length_map]; omega)
        refine ⟨?_, by omega, ?_⟩
        · simp only [F_ref13_cases_s1, decide_eq_true h2, if_true, e1, e2, e3, e5, Option.bind_some, w64_id (show -9223372036854775808 ≤ f + 1 by omega) (show f + 1 ≤ 9223372036854775807 by omega)]
        · rw [k2, Nat.succ_mul, List.length_append, List.length_map]; omega) (fun f s hf => by
        simp only [F_ref13_cases_s1, decide_eq_false (show ¬ f ≤ b.Force.High by omega), Bool.false_eq_true, if_false]) (by omega)
    rw [hl, Option.bind_some]
    congr 1
    rw [foldl_app, List.nil_append, List.drop_eq_getElem_cons hlt, hB]
    conv => rhs; unfold casesS
    rw [List.map_flatMap]
    congr 1
    funext f
    rw [List.map_map]
    congr 1
    funext c
    simp
theorem p_cases0 {r : Run} (hr : ROk r) : F_ref13_cases n r [] = some (casesS r.Blows) := by
  have hnb := hr.nb
  rw [p_cases hn hr r.Blows.length [] n (by simp) (by omega)]
  simp
theorem p_Above13 {c : List Int} (hc : c.length ≤ 100000000) (x : Int) : F_ref13_Above n c x = some (aboveS c x : Int) := by
  have hl := loop_fold (step := F_ref13_Above_s1 n c x) c (fun i (k : Nat) => ((k : Int), (i : Int))) (fun k f => if decide (x ≤ f) = true then k + 1 else k) (fun k => (k : Int)) (fun i k => k ≤ i) (n := n) 0 (Nat.le_refl _) (fun i f k hf hk => by
    have hi : i < c.length := (List.getElem?_eq_some_iff.1 hf).1
    simp only [F_ref13_Above_s1, lt_nat, hi, decide_true, if_true, geti_nat, hf, Option.bind_some, w64_nat (show i ≤ 4611686018427387904 by omega), w64_nat (show k ≤ 4611686018427387904 by omega)]
    by_cases h : x ≤ f
    · simp only [decide_eq_true h, if_true, Option.bind_some]; exact ⟨trivial, by omega⟩
    · simp only [decide_eq_false h, Bool.false_eq_true, if_false, Option.bind_some]; exact ⟨trivial, by omega⟩) (fun k hk => by
    simp [F_ref13_Above_s1]) (by omega)
  have h1 := hl.1
  rw [foldl_cnt (fun f => decide (x ≤ f))] at h1
  unfold F_ref13_Above
  rw [show ((0 : Int), (0 : Int)) = (((0 : Nat) : Int), ((0 : Nat) : Int)) from rfl, h1, Option.bind_some]
  unfold aboveS
  rw [Nat.zero_add]
theorem p_IsRight13 {c : List Int} (hc : c.length ≤ 100000000) (m : Meter) : F_ref13_IsRight n m c = some (rightC m c) := by
  simp only [F_ref13_IsRight, p_Above13 hn hc, Option.bind_some]; rfl
theorem p_Wrongs {r : Run} (hm : r.Meters.length ≤ 1000) {c : List Int} (hc : c.length ≤ 100000000) : F_ref13_Wrongs n r c = some (wrongC r.Meters c : Int) := by
  have hl := loop_fold (step := F_ref13_Wrongs_s1 n r c) r.Meters (fun i (k : Nat) => ((k : Int), (i : Int))) (fun k m => if (!rightC m c) = true then k + 1 else k) (fun k => (k : Int)) (fun i k => k ≤ i) (n := n) 0 (Nat.le_refl _) (fun i m k hf hk => by
    have hi : i < r.Meters.length := (List.getElem?_eq_some_iff.1 hf).1
    simp only [F_ref13_Wrongs_s1, lt_nat, hi, decide_true, if_true, geti_nat, hf, p_IsRight13 hn hc, Option.bind_some, w64_nat (show i ≤ 4611686018427387904 by omega), w64_nat (show k ≤ 4611686018427387904 by omega)]
    cases rightC m c
    · simp only [Bool.not_false, if_true, Option.bind_some]; exact ⟨trivial, by omega⟩
    · simp only [Bool.not_true, Bool.false_eq_true, if_false, Option.bind_some]; exact ⟨trivial, by omega⟩) (fun k hk => by
    simp [F_ref13_Wrongs_s1]) (by omega)
  have h1 := hl.1
  rw [foldl_cnt (fun m => !rightC m c)] at h1
  unfold F_ref13_Wrongs
  rw [show ((0 : Int), (0 : Int)) = (((0 : Nat) : Int), ((0 : Nat) : Int)) from rfl, h1, Option.bind_some]
  unfold wrongC
  rw [Nat.zero_add]
theorem p_truths13 {r : Run} (hr : ROk r) : F_ref13_truths n r = some (truthsC r) := by
  have hnm := hr.nm; have hnb := hr.nb
  have hcl := cases_len hr
  have hl := loop_fold (step := F_ref13_truths_s1 n r (casesS r.Blows)) (casesS r.Blows) (fun i (s : List (List Int)) => ((i : Int), s)) (fun s c => if truthC r c = true then s ++ [c] else s) (fun s => s) (fun i s => s.length ≤ i) (n := n) [] (Nat.le_refl _) (fun i c s hf hk => by
    have hi : i < (casesS r.Blows).length := (List.getElem?_eq_some_iff.1 hf).1
    have hc := casesS_len (List.mem_of_getElem? hf)
    have e : lim (s ++ [c]) = some (s ++ [c]) := lim_ok (by simp; omega)
    simp only [F_ref13_truths_s1, lt_nat, hi, decide_true, if_true, geti_nat, hf, p_Wrongs hn (r := r) (c := c) (by omega) (by omega), Option.bind_some, w64_nat (show i ≤ 4611686018427387904 by omega), e]
    show _ = _ ∧ _
    by_cases h : truthC r c = true
    · have h' : decide ((wrongC r.Meters c : Int) ≤ r.Wrong) = true := h
      simp only [h, h', if_true, Option.bind_some]; exact ⟨trivial, by simp; omega⟩
    · have h' : ¬ decide ((wrongC r.Meters c : Int) ≤ r.Wrong) = true := h
      simp only [h, h', Bool.false_eq_true, if_false, Option.bind_some]; exact ⟨trivial, by omega⟩) (fun s hk => by
    simp [F_ref13_truths_s1]) (by omega)
  have h1 := hl.1
  rw [foldl_filter', List.nil_append] at h1
  simp only [F_ref13_truths, p_cases0 hn hr, Option.bind_some]
  rw [show (0 : Int) = ((0 : Nat) : Int) from rfl, h1]; rfl
def knownT (r : Run) (is : Bool) : List (List Int) × Int := if errR r is = 0 then (truthsC r, 0) else ([], errR r is)
theorem p_known {r : Run} (hs : SmallR r) (is : Bool) : F_ref13_known n r is = some (knownT r is) := by
  simp only [F_ref13_known, p_Check13 (n := n) (by omega) hs, Option.bind_some]
  by_cases hc : checkR r = 0
  · have hr := checkR_ok.1 hc
    rw [hc]
    simp only [bne_self_eq_false, Bool.false_eq_true, if_false]
    unfold knownT errR
    simp only [hc, ne_eq, not_true_eq_false, if_false]
    cases is with
    | false => simp
    | true =>
      simp only [Bool.not_true, Bool.false_eq_true, if_false, p_truths13 hn hr, Option.bind_some, reduceCtorEq]
      by_cases h : truthsC r = []
      · simp [h]
      · have : ((truthsC r).length : Int) ≠ 0 := by simpa using h
        simp [h]
  · have : (checkR r != 0) = true := by simpa using hc
    simp only [this, if_true]
    unfold knownT errR
    simp [hc]
end
theorem known_ok {r : Run} {is : Bool} (e : errR r is = 0) : knownT r is = (truthsC r, 0) := by
  unfold knownT; rw [if_pos e]
end Go.Proofs.YtcipdblhopffbaaGreat
end
section
namespace Go.Proofs.YtcipdblhopffbaaGreat
open Go Go.RowKit Go.Dec
set_option linter.unusedVariables false
-- 5 ferrule/ferrulelaw13.CountsForces
noncomputable def F_law13_CountsForces (n : Nat) (r : Run) (x_ : law13_Ask) : Option Bool :=
 (F_law13_Far n r).bind fun y3 => if y3 = true then ((F_law13_works n).bind fun y5 => some y5) else ((F_ref13_Copy n r).bind fun y6 => (F_counts_Check n y6).bind fun y12 => (F_ref13_Check n r).bind fun y13 => if (y12 != y13) = true then (some false) else ((F_counts_Fewest n y6).bind fun y15 => (F_ref13_Fewest n r).bind fun y16 => (F_counts_Forces n y6 x_.Blow).bind fun y17 => (F_ref13_Forces n r x_.Blow).bind fun y20 => (F_counts_Right n y6 x_.Meter).bind fun y23 => (F_ref13_Right n r x_.Meter).bind fun y24 => (F_counts_Reads n y6 x_.Limit).bind fun y25 => (F_ref13_Reads n r x_.Limit).bind fun y27 => (F_counts_Many n y6).bind fun y29 => (F_ref13_Many n r).bind fun y30 => (if ((y15.1 == y16.1) && (y15.2 == y16.2)) = true then ((F_law13_sameInts n y17.1 y20.1).bind fun y37 => some y37) else (some false) : Option Bool).bind fun p34 => (if (((((((p34 && (y17.2 == y20.2)) && (y23.1 == y24.1)) && (y23.2 == y24.2)) && ((y25.1.Low == y27.1.Low) && (y25.1.High == y27.1.High))) && (y25.2 == y27.2)) && (y29.1 == y30.1)) && (y29.2 == y30.2)) = true then ((F_law13_same n y6 r).bind fun y56 => some y56) else (some false) : Option Bool).bind fun p53 => (if p53 = true then ((F_law13_works n).bind fun y61 => some y61) else (some false) : Option Bool).bind fun p58 => some p58))
set_option maxRecDepth 100000 in
set_option maxHeartbeats 40000000 in
theorem c_law13_CountsForces (n : Nat) (H : Hp) (r : Run) (r_v0 : Value) (hr_0 : SL H 7 R_Section r_v0 r.Canopy.Frame.Sections) (r_v7 : Value) (hr_7 : SL H 2 R_Span r_v7 r.Canopy.Ribs) (r_v8 : Value) (hr_8 : SL H 1 RInt r_v8 r.Canopy.Shares) (r_v9 : Value) (hr_9 : SL H 3 R_Blow r_v9 r.Blows) (r_v10 : Value) (hr_10 : SL H 2 R_Meter r_v10 r.Meters) (x_ : law13_Ask) (y : Bool) (hF : F_law13_CountsForces n r x_ = some y) : SC Tryz.prog 5 [.agg [r_v0, .int .i64 r.Canopy.Frame.Low, .int .i64 r.Canopy.Frame.High, .int .i64 r.Canopy.Frame.Ease.Num, .int .i64 r.Canopy.Frame.Ease.Den, .int .i64 r.Canopy.Frame.Rod, .int .i64 r.Canopy.Frame.Case, r_v7, r_v8, r_v9, r_v10, .int .i64 r.Wrong].toArray, .agg [.int .i64 x_.Blow, .int .i64 x_.Meter, .int .i64 x_.Limit].toArray] (.bool y) H := by
 rw [F_law13_CountsForces] at hF
 refine SC.of (N := 154) Tryz.func5 rfl rfl rfl fun w => ?_
 refine JC.seq ?_
 refine JC.region (by rfl) ?_
 intro hQ
 refine JL.box (cs := [r_v0, .int .i64 r.Canopy.Frame.Low, .int .i64 r.Canopy.Frame.High, .int .i64 r.Canopy.Frame.Ease.Num, .int .i64 r.Canopy.Frame.Ease.Den, .int .i64 r.Canopy.Frame.Rod, .int .i64 r.Canopy.Frame.Case, r_v7, r_v8, r_v9, r_v10, .int .i64 r.Wrong]) rfl .none rfl ?_
 intro b1
 refine JL.box (cs := [.int .i64 x_.Blow, .int .i64 x_.Meter, .int .i64 x_.Limit]) rfl .none rfl ?_
 intro b2
 refine JL.assign .none rfl ?_
 refine JL.done hQ ?_
 refine JQ.go ?_
 refine JC.seq ?_
 refine JC.seq ?_
 refine JC.region (by rfl) ?_
 intro hQ
 refine JL.loadOwn 1 az_34 rfl rfl rfl .none rfl ?_
 obtain ⟨y3, hy3, hF⟩ := bind_some hF
 refine JL.callS (c_law13_Far n H r r_v0 hr_0 r_v7 hr_7 r_v8 hr_8 r_v9 hr_9 r_v10 hr_10 y3 hy3) rfl en_6 .none rfl ?_
 refine JL.done hQ ?_
 refine JQ.go ?_
 rcases ite_some hF with ⟨hc4, hF⟩ | ⟨hc4, hF⟩
 ·refine JC.cond_t (b := y3) rfl hc4 ?_
  refine JC.seq ?_
  refine JC.region (by rfl) ?_
  intro hQ
  obtain ⟨y5, hy5, hF⟩ := bind_some hF
  refine JL.callS (c_law13_works n H y5 hy5) rfl en_7 .none rfl ?_
  refine JL.assign .none rfl ?_
  refine JL.done hQ ?_
  refine JQ.go ?_
  refine JC.ret ?_
  refine JQ.ret_then ?_
  obtain rfl := Option.some.inj hF
  exact JQ.outS rfl (.tmp .nil) rfl
 ·refine JC.cond_f (b := y3) rfl hc4 ?_
  refine JC.skip ?_
  refine JQ.go ?_
  refine JC.seq ?_
  refine JC.region (by rfl) ?_
  intro hQ
  refine JL.loadOwn 1 az_34 rfl rfl rfl .none rfl ?_
  obtain ⟨y6, hy6, hF⟩ := bind_some hF
  refine JL.callH (c_ref13_Copy n H r r_v0 hr_0 r_v7 hr_7 r_v8 hr_8 r_v9 hr_9 r_v10 hr_10 y6 hy6) rfl en_8 .none rfl ?_
  rintro H7 vv8 hs7 ⟨y6a_v0, y6a_v7, y6a_v8, y6a_v9, y6a_v10, rfl, hy6a_0, hy6a_7, hy6a_8, hy6a_9, hy6a_10⟩
  refine JL.alloc ze_34 .none rfl ?_
  intro b9
  refine JL.storeOwn 0 (cs := [y6a_v0, .int .i64 y6.Canopy.Frame.Low, .int .i64 y6.Canopy.Frame.High, .int .i64 y6.Canopy.Frame.Ease.Num, .int .i64 y6.Canopy.Frame.Ease.Den, .int .i64 y6.Canopy.Frame.Rod, .int .i64 y6.Canopy.Frame.Case, y6a_v7, y6a_v8, y6a_v9, y6a_v10, .int .i64 y6.Wrong]) az_34 rfl rfl rfl (one_cons (SL.one hy6a_0) (one_cons rfl (one_cons rfl (one_cons rfl (one_cons rfl (one_cons rfl (one_cons rfl (one_cons (SL.one hy6a_7) (one_cons (SL.one hy6a_8) (one_cons (SL.one hy6a_9) (one_cons (SL.one hy6a_10) (one_cons rfl one_nil)))))))))))) rfl rfl .none ?_
  refine JL.done hQ ?_
  refine JQ.go ?_
  refine JC.seq ?_
  refine JC.seq ?_
  refine JC.draw (by rfl) mo_ (by kernel_rfl) ?_
  intro hQ
  refine JL.loadOwn 0 az_34 rfl rfl rfl .none rfl ?_
  obtain ⟨y12, hy12, hF⟩ := bind_some hF
  refine JL.callS (c_counts_Check n H7 y6 y6a_v0 hy6a_0 y6a_v7 hy6a_7 y6a_v8 hy6a_8 y6a_v9 hy6a_9 y6a_v10 hy6a_10 y12 hy12) rfl en_27 .none rfl ?_
  refine JL.loadOwn 2 az_34 rfl rfl rfl .none rfl ?_
  obtain ⟨y13, hy13, hF⟩ := bind_some hF
  refine JL.callS (c_ref13_Check n H7 r r_v0 (SL.mono R_Section_mono hs7 hr_0) r_v7 (SL.mono R_Span_mono hs7 hr_7) r_v8 (SL.mono RInt.mono hs7 hr_8) r_v9 (SL.mono R_Blow_mono hs7 hr_9) r_v10 (SL.mono R_Meter_mono hs7 hr_10) y13 hy13) rfl en_28 .none rfl ?_
  refine JL.bin rfl rfl rfl .none rfl ?_
  refine JL.doneQ hQ ?_
  refine JQ.go ?_
  refine JC.fresh (fun f => f 2 = .pointer (some ⟨b1, 0, none⟩) ∧ f 3 = .pointer (some ⟨b2, 0, none⟩) ∧ f 4 = .bool false ∧ f 5 = .pointer (some ⟨b9, 0, none⟩) ∧ f 35 = .bool (y12 != y13)) ⟨rfl, rfl, rfl, rfl, rfl⟩ ?_
  rintro f ⟨hf2, hf3, hf4, hf5, hf35⟩
  refine (JC.norm (i := 2) hf2 (JC.norm (i := 3) hf3 (JC.norm (i := 4) hf4 (JC.norm (i := 5) hf5 (JC.norm (i := 35) hf35 ?_)))))
  rcases ite_some hF with ⟨hc14, hF⟩ | ⟨hc14, hF⟩
  ·refine JC.cond_t (b := (y12 != y13)) rfl hc14 ?_
   refine JC.seq ?_
   refine JC.region (by rfl) ?_
   intro hQ
   refine JL.assign .none rfl ?_
   refine JL.done hQ ?_
   refine JQ.go ?_
   refine JC.ret ?_
   refine JQ.ret_then ?_
   obtain rfl := Option.some.inj hF
   exact JQ.outS rfl (.tmp .nil) rfl
  ·refine JC.cond_f (b := (y12 != y13)) rfl hc14 ?_
   refine JC.skip ?_
   refine JQ.go ?_
   refine JC.seq ?_
   refine JC.region (by rfl) ?_
   intro hQ
   refine JL.loadOwn 0 az_34 rfl rfl rfl .none rfl ?_
   obtain ⟨y15, hy15, hF⟩ := bind_some hF
   refine JL.callS (c_counts_Fewest n H7 y6 y6a_v0 hy6a_0 y6a_v7 hy6a_7 y6a_v8 hy6a_8 y6a_v9 hy6a_9 y6a_v10 hy6a_10 y15 hy15) rfl en_29 .none rfl ?_
   refine JL.move .none rfl ?_
   refine JL.extract rfl rfl .none rfl ?_
   refine JL.extract rfl rfl .none rfl ?_
   refine JL.assign .none rfl ?_
   refine JL.assign .none rfl ?_
   refine JL.done hQ ?_
   refine JQ.go ?_
   refine JC.seq ?_
   refine JC.region (by rfl) ?_
   intro hQ
   refine JL.loadOwn 2 az_34 rfl rfl rfl .none rfl ?_
   obtain ⟨y16, hy16, hF⟩ := bind_some hF
   refine JL.callS (c_ref13_Fewest n H7 r r_v0 (SL.mono R_Section_mono hs7 hr_0) r_v7 (SL.mono R_Span_mono hs7 hr_7) r_v8 (SL.mono RInt.mono hs7 hr_8) r_v9 (SL.mono R_Blow_mono hs7 hr_9) r_v10 (SL.mono R_Meter_mono hs7 hr_10) y16 hy16) rfl en_30 .none rfl ?_
   refine JL.move .none rfl ?_
   refine JL.extract rfl rfl .none rfl ?_
   refine JL.extract rfl rfl .none rfl ?_
   refine JL.assign .none rfl ?_
   refine JL.assign .none rfl ?_
   refine JL.done hQ ?_
   refine JQ.go ?_
   refine JC.fresh (fun f => f 2 = .pointer (some ⟨b1, 0, none⟩) ∧ f 3 = .pointer (some ⟨b2, 0, none⟩) ∧ f 4 = .bool false ∧ f 5 = .pointer (some ⟨b9, 0, none⟩) ∧ f 6 = .int .i64 y15.1 ∧ f 7 = .int .i64 y15.2 ∧ f 8 = .int .i64 y16.1 ∧ f 9 = .int .i64 y16.2) ⟨rfl, rfl, rfl, rfl, rfl, rfl, rfl, rfl⟩ ?_
   rintro f ⟨hf2, hf3, hf4, hf5, hf6, hf7, hf8, hf9⟩
   refine (JC.norm (i := 2) hf2 (JC.norm (i := 3) hf3 (JC.norm (i := 4) hf4 (JC.norm (i := 5) hf5 (JC.norm (i := 6) hf6 (JC.norm (i := 7) hf7 (JC.norm (i := 8) hf8 (JC.norm (i := 9) hf9 ?_))))))))
   refine JC.seq ?_
   refine JC.region (by rfl) ?_
   intro hQ
   refine JL.loadOwn 0 az_34 rfl rfl rfl .none rfl ?_
   refine JL.fieldAddr fo_54_0 rfl .none rfl ?_
   refine JL.loadOwn 1 az_3 rfl rfl rfl .none rfl ?_
   obtain ⟨y17, hy17, hF⟩ := bind_some hF
   refine JL.callH (c_counts_Forces n H7 y6 y6a_v0 hy6a_0 y6a_v7 hy6a_7 y6a_v8 hy6a_8 y6a_v9 hy6a_9 y6a_v10 hy6a_10 x_.Blow y17 hy17) rfl en_23 .none rfl ?_
   rintro H18 vv19 hs18 ⟨y17a_v0, rfl, hy17a_0⟩
   refine JL.move .none rfl ?_
   refine JL.extract rfl rfl .none rfl ?_
   refine JL.extract rfl rfl .none rfl ?_
   refine JL.assign .none rfl ?_
   refine JL.assign .none rfl ?_
   refine JL.done hQ ?_
   refine JQ.go ?_
   refine JC.seq ?_
   refine JC.region (by rfl) ?_
   intro hQ
   refine JL.loadOwn 2 az_34 rfl rfl rfl .none rfl ?_
   refine JL.fieldAddr fo_54_0 rfl .none rfl ?_
   refine JL.loadOwn 1 az_3 rfl rfl rfl .none rfl ?_
   obtain ⟨y20, hy20, hF⟩ := bind_some hF
   refine JL.callH (c_ref13_Forces n H18 r r_v0 (SL.mono R_Section_mono (HSub.trans hs7 hs18) hr_0) r_v7 (SL.mono R_Span_mono (HSub.trans hs7 hs18) hr_7) r_v8 (SL.mono RInt.mono (HSub.trans hs7 hs18) hr_8) r_v9 (SL.mono R_Blow_mono (HSub.trans hs7 hs18) hr_9) r_v10 (SL.mono R_Meter_mono (HSub.trans hs7 hs18) hr_10) x_.Blow y20 hy20) rfl en_31 .none rfl ?_
   rintro H21 vv22 hs21 ⟨y20a_v0, rfl, hy20a_0⟩
   refine JL.move .none rfl ?_
   refine JL.extract rfl rfl .none rfl ?_
   refine JL.extract rfl rfl .none rfl ?_
   refine JL.assign .none rfl ?_
   refine JL.assign .none rfl ?_
   refine JL.done hQ ?_
   refine JQ.go ?_
   refine JC.fresh (fun f => f 2 = .pointer (some ⟨b1, 0, none⟩) ∧ f 3 = .pointer (some ⟨b2, 0, none⟩) ∧ f 4 = .bool false ∧ f 5 = .pointer (some ⟨b9, 0, none⟩) ∧ f 6 = .int .i64 y15.1 ∧ f 7 = .int .i64 y15.2 ∧ f 8 = .int .i64 y16.1 ∧ f 9 = .int .i64 y16.2 ∧ f 10 = y17a_v0 ∧ f 11 = .int .i64 y17.2 ∧ f 12 = y20a_v0 ∧ f 13 = .int .i64 y20.2) ⟨rfl, rfl, rfl, rfl, rfl, rfl, rfl, rfl, rfl, rfl, rfl, rfl⟩ ?_
   rintro f ⟨hf2, hf3, hf4, hf5, hf6, hf7, hf8, hf9, hf10, hf11, hf12, hf13⟩
   refine (JC.norm (i := 2) hf2 (JC.norm (i := 3) hf3 (JC.norm (i := 4) hf4 (JC.norm (i := 5) hf5 (JC.norm (i := 6) hf6 (JC.norm (i := 7) hf7 (JC.norm (i := 8) hf8 (JC.norm (i := 9) hf9 (JC.norm (i := 10) hf10 (JC.norm (i := 11) hf11 (JC.norm (i := 12) hf12 (JC.norm (i := 13) hf13 ?_))))))))))))
   refine JC.seq ?_
   refine JC.region (by rfl) ?_
   intro hQ
   refine JL.loadOwn 0 az_34 rfl rfl rfl .none rfl ?_
   refine JL.fieldAddr fo_54_1 rfl .none rfl ?_
   refine JL.loadOwn 1 az_3 rfl rfl rfl .none rfl ?_
   obtain ⟨y23, hy23, hF⟩ := bind_some hF
   refine JL.callS (c_counts_Right n H21 y6 y6a_v0 (SL.mono R_Section_mono (HSub.trans hs18 hs21) hy6a_0) y6a_v7 (SL.mono R_Span_mono (HSub.trans hs18 hs21) hy6a_7) y6a_v8 (SL.mono RInt.mono (HSub.trans hs18 hs21) hy6a_8) y6a_v9 (SL.mono R_Blow_mono (HSub.trans hs18 hs21) hy6a_9) y6a_v10 (SL.mono R_Meter_mono (HSub.trans hs18 hs21) hy6a_10) x_.Meter y23 hy23) rfl en_25 .none rfl ?_
   refine JL.move .none rfl ?_
   refine JL.extract rfl rfl .none rfl ?_
   refine JL.extract rfl rfl .none rfl ?_
   refine JL.assign .none rfl ?_
   refine JL.assign .none rfl ?_
   refine JL.done hQ ?_
   refine JQ.go ?_
   refine JC.seq ?_
   refine JC.region (by rfl) ?_
   intro hQ
   refine JL.loadOwn 2 az_34 rfl rfl rfl .none rfl ?_
   refine JL.fieldAddr fo_54_1 rfl .none rfl ?_
   refine JL.loadOwn 1 az_3 rfl rfl rfl .none rfl ?_
   obtain ⟨y24, hy24, hF⟩ := bind_some hF
   refine JL.callS (c_ref13_Right n H21 r r_v0 (SL.mono R_Section_mono (HSub.trans hs7 (HSub.trans hs18 hs21)) hr_0) r_v7 (SL.mono R_Span_mono (HSub.trans hs7 (HSub.trans hs18 hs21)) hr_7) r_v8 (SL.mono RInt.mono (HSub.trans hs7 (HSub.trans hs18 hs21)) hr_8) r_v9 (SL.mono R_Blow_mono (HSub.trans hs7 (HSub.trans hs18 hs21)) hr_9) r_v10 (SL.mono R_Meter_mono (HSub.trans hs7 (HSub.trans hs18 hs21)) hr_10) x_.Meter y24 hy24) rfl en_32 .none rfl ?_
   refine JL.move .none rfl ?_
   refine JL.extract rfl rfl .none rfl ?_
   refine JL.extract rfl rfl .none rfl ?_
   refine JL.assign .none rfl ?_
   refine JL.assign .none rfl ?_
   refine JL.done hQ ?_
   refine JQ.go ?_
   refine JC.fresh (fun f => f 2 = .pointer (some ⟨b1, 0, none⟩) ∧ f 3 = .pointer (some ⟨b2, 0, none⟩) ∧ f 4 = .bool false ∧ f 5 = .pointer (some ⟨b9, 0, none⟩) ∧ f 6 = .int .i64 y15.1 ∧ f 7 = .int .i64 y15.2 ∧ f 8 = .int .i64 y16.1 ∧ f 9 = .int .i64 y16.2 ∧ f 10 = y17a_v0 ∧ f 11 = .int .i64 y17.2 ∧ f 12 = y20a_v0 ∧ f 13 = .int .i64 y20.2 ∧ f 14 = .int .i64 y23.1 ∧ f 15 = .int .i64 y23.2 ∧ f 16 = .int .i64 y24.1 ∧ f 17 = .int .i64 y24.2) ⟨rfl, rfl, rfl, rfl, rfl, rfl, rfl, rfl, rfl, rfl, rfl, rfl, rfl, rfl, rfl, rfl⟩ ?_
   rintro f ⟨hf2, hf3, hf4, hf5, hf6, hf7, hf8, hf9, hf10, hf11, hf12, hf13, hf14, hf15, hf16, hf17⟩
   refine (JC.norm (i := 2) hf2 (JC.norm (i := 3) hf3 (JC.norm (i := 4) hf4 (JC.norm (i := 5) hf5 (JC.norm (i := 6) hf6 (JC.norm (i := 7) hf7 (JC.norm (i := 8) hf8 (JC.norm (i := 9) hf9 (JC.norm (i := 10) hf10 (JC.norm (i := 11) hf11 (JC.norm (i := 12) hf12 (JC.norm (i := 13) hf13 (JC.norm (i := 14) hf14 (JC.norm (i := 15) hf15 (JC.norm (i := 16) hf16 (JC.norm (i := 17) hf17 ?_))))))))))))))))
   refine JC.seq ?_
   refine JC.region (by rfl) ?_
   intro hQ
   refine JL.loadOwn 0 az_34 rfl rfl rfl .none rfl ?_
   refine JL.fieldAddr fo_54_2 rfl .none rfl ?_
   refine JL.loadOwn 1 az_3 rfl rfl rfl .none rfl ?_
   obtain ⟨y25, hy25, hF⟩ := bind_some hF
   refine JL.callS (c_counts_Reads n H21 y6 y6a_v0 (SL.mono R_Section_mono (HSub.trans hs18 hs21) hy6a_0) y6a_v7 (SL.mono R_Span_mono (HSub.trans hs18 hs21) hy6a_7) y6a_v8 (SL.mono RInt.mono (HSub.trans hs18 hs21) hy6a_8) y6a_v9 (SL.mono R_Blow_mono (HSub.trans hs18 hs21) hy6a_9) y6a_v10 (SL.mono R_Meter_mono (HSub.trans hs18 hs21) hy6a_10) x_.Limit y25 hy25) rfl en_18 .none rfl ?_
   refine JL.move .none rfl ?_
   refine JL.extract rfl rfl .none rfl ?_
   refine JL.extract rfl rfl .none rfl ?_
   refine JL.alloc ze_42 .none rfl ?_
   intro b26
   refine JL.storeOwn 0 (cs := [.int .i64 y25.1.Low, .int .i64 y25.1.High]) az_42 rfl rfl rfl (one_cons rfl (one_cons rfl one_nil)) rfl rfl .none ?_
   refine JL.assign .none rfl ?_
   refine JL.done hQ ?_
   refine JQ.go ?_
   refine JC.seq ?_
   refine JC.region (by rfl) ?_
   intro hQ
   refine JL.loadOwn 3 az_34 rfl rfl rfl .none rfl ?_
   refine JL.fieldAddr fo_54_2 rfl .none rfl ?_
   refine JL.loadOwn 2 az_3 rfl rfl rfl .none rfl ?_
   obtain ⟨y27, hy27, hF⟩ := bind_some hF
   refine JL.callS (c_ref13_Reads n H21 r r_v0 (SL.mono R_Section_mono (HSub.trans hs7 (HSub.trans hs18 hs21)) hr_0) r_v7 (SL.mono R_Span_mono (HSub.trans hs7 (HSub.trans hs18 hs21)) hr_7) r_v8 (SL.mono RInt.mono (HSub.trans hs7 (HSub.trans hs18 hs21)) hr_8) r_v9 (SL.mono R_Blow_mono (HSub.trans hs7 (HSub.trans hs18 hs21)) hr_9) r_v10 (SL.mono R_Meter_mono (HSub.trans hs7 (HSub.trans hs18 hs21)) hr_10) x_.Limit y27 hy27) rfl en_33 .none rfl ?_
   refine JL.move .none rfl ?_
   refine JL.extract rfl rfl .none rfl ?_
   refine JL.extract rfl rfl .none rfl ?_
   refine JL.alloc ze_42 .none rfl ?_
   intro b28
   refine JL.storeOwn 0 (cs := [.int .i64 y27.1.Low, .int .i64 y27.1.High]) az_42 rfl rfl rfl (one_cons rfl (one_cons rfl one_nil)) rfl rfl .none ?_
   refine JL.assign .none rfl ?_
   refine JL.done hQ ?_
   refine JQ.go ?_
   refine JC.fresh (fun f => f 2 = .pointer (some ⟨b1, 0, none⟩) ∧ f 4 = .bool false ∧ f 5 = .pointer (some ⟨b9, 0, none⟩) ∧ f 6 = .int .i64 y15.1 ∧ f 7 = .int .i64 y15.2 ∧ f 8 = .int .i64 y16.1 ∧ f 9 = .int .i64 y16.2 ∧ f 10 = y17a_v0 ∧ f 11 = .int .i64 y17.2 ∧ f 12 = y20a_v0 ∧ f 13 = .int .i64 y20.2 ∧ f 14 = .int .i64 y23.1 ∧ f 15 = .int .i64 y23.2 ∧ f 16 = .int .i64 y24.1 ∧ f 17 = .int .i64 y24.2 ∧ f 18 = .pointer (some ⟨b26, 0, none⟩) ∧ f 19 = .int .i64 y25.2 ∧ f 20 = .pointer (some ⟨b28, 0, none⟩) ∧ f 21 = .int .i64 y27.2) ⟨rfl, rfl, rfl, rfl, rfl, rfl, rfl, rfl, rfl, rfl, rfl, rfl, rfl, rfl, rfl, rfl, rfl, rfl, rfl⟩ ?_
   rintro f ⟨hf2, hf4, hf5, hf6, hf7, hf8, hf9, hf10, hf11, hf12, hf13, hf14, hf15, hf16, hf17, hf18, hf19, hf20, hf21⟩
   refine (JC.norm (i := 2) hf2 (JC.norm (i := 4) hf4 (JC.norm (i := 5) hf5 (JC.norm (i := 6) hf6 (JC.norm (i := 7) hf7 (JC.norm (i := 8) hf8 (JC.norm (i := 9) hf9 (JC.norm (i := 10) hf10 (JC.norm (i := 11) hf11 (JC.norm (i := 12) hf12 (JC.norm (i := 13) hf13 (JC.norm (i := 14) hf14 (JC.norm (i := 15) hf15 (JC.norm (i := 16) hf16 (JC.norm (i := 17) hf17 (JC.norm (i := 18) hf18 (JC.norm (i := 19) hf19 (JC.norm (i := 20) hf20 (JC.norm (i := 21) hf21 ?_)))))))))))))))))))
   refine JC.seq ?_
   refine JC.region (by rfl) ?_
   intro hQ
   refine JL.loadOwn 2 az_34 rfl rfl rfl .none rfl ?_
   obtain ⟨y29, hy29, hF⟩ := bind_some hF
   refine JL.callS (c_counts_Many n H21 y6 y6a_v0 (SL.mono R_Section_mono (HSub.trans hs18 hs21) hy6a_0) y6a_v7 (SL.mono R_Span_mono (HSub.trans hs18 hs21) hy6a_7) y6a_v8 (SL.mono RInt.mono (HSub.trans hs18 hs21) hy6a_8) y6a_v9 (SL.mono R_Blow_mono (HSub.trans hs18 hs21) hy6a_9) y6a_v10 (SL.mono R_Meter_mono (HSub.trans hs18 hs21) hy6a_10) y29 hy29) rfl en_34 .none rfl ?_
   refine JL.move .none rfl ?_
   refine JL.extract rfl rfl .none rfl ?_
   refine JL.extract rfl rfl .none rfl ?_
   refine JL.assign .none rfl ?_
   refine JL.assign .none rfl ?_
   refine JL.done hQ ?_
   refine JQ.go ?_
   refine JC.seq ?_
   refine JC.region (by rfl) ?_
   intro hQ
   refine JL.loadOwn 4 az_34 rfl rfl rfl .none rfl ?_
   obtain ⟨y30, hy30, hF⟩ := bind_some hF
   refine JL.callS (c_ref13_Many n H21 r r_v0 (SL.mono R_Section_mono (HSub.trans hs7 (HSub.trans hs18 hs21)) hr_0) r_v7 (SL.mono R_Span_mono (HSub.trans hs7 (HSub.trans hs18 hs21)) hr_7) r_v8 (SL.mono RInt.mono (HSub.trans hs7 (HSub.trans hs18 hs21)) hr_8) r_v9 (SL.mono R_Blow_mono (HSub.trans hs7 (HSub.trans hs18 hs21)) hr_9) r_v10 (SL.mono R_Meter_mono (HSub.trans hs7 (HSub.trans hs18 hs21)) hr_10) y30 hy30) rfl en_35 .none rfl ?_
   refine JL.move .none rfl ?_
   refine JL.extract rfl rfl .none rfl ?_
   refine JL.extract rfl rfl .none rfl ?_
   refine JL.assign .none rfl ?_
   refine JL.assign .none rfl ?_
   refine JL.done hQ ?_
   refine JQ.go ?_
   refine JC.fresh (fun f => f 2 = .pointer (some ⟨b1, 0, none⟩) ∧ f 4 = .bool false ∧ f 5 = .pointer (some ⟨b9, 0, none⟩) ∧ f 6 = .int .i64 y15.1 ∧ f 7 = .int .i64 y15.2 ∧ f 8 = .int .i64 y16.1 ∧ f 9 = .int .i64 y16.2 ∧ f 10 = y17a_v0 ∧ f 11 = .int .i64 y17.2 ∧ f 12 = y20a_v0 ∧ f 13 = .int .i64 y20.2 ∧ f 14 = .int .i64 y23.1 ∧ f 15 = .int .i64 y23.2 ∧ f 16 = .int .i64 y24.1 ∧ f 17 = .int .i64 y24.2 ∧ f 18 = .pointer (some ⟨b26, 0, none⟩) ∧ f 19 = .int .i64 y25.2 ∧ f 20 = .pointer (some ⟨b28, 0, none⟩) ∧ f 21 = .int .i64 y27.2 ∧ f 22 = .int .i64 y29.1 ∧ f 23 = .int .i64 y29.2 ∧ f 24 = .int .i64 y30.1 ∧ f 25 = .int .i64 y30.2) ⟨rfl, rfl, rfl, rfl, rfl, rfl, rfl, rfl, rfl, rfl, rfl, rfl, rfl, rfl, rfl, rfl, rfl, rfl, rfl, rfl, rfl, rfl, rfl⟩ ?_
   rintro f ⟨hf2, hf4, hf5, hf6, hf7, hf8, hf9, hf10, hf11, hf12, hf13, hf14, hf15, hf16, hf17, hf18, hf19, hf20, hf21, hf22, hf23, hf24, hf25⟩
   refine (JC.norm (i := 2) hf2 (JC.norm (i := 4) hf4 (JC.norm (i := 5) hf5 (JC.norm (i := 6) hf6 (JC.norm (i := 7) hf7 (JC.norm (i := 8) hf8 (JC.norm (i := 9) hf9 (JC.norm (i := 10) hf10 (JC.norm (i := 11) hf11 (JC.norm (i := 12) hf12 (JC.norm (i := 13) hf13 (JC.norm (i := 14) hf14 (JC.norm (i := 15) hf15 (JC.norm (i := 16) hf16 (JC.norm (i := 17) hf17 (JC.norm (i := 18) hf18 (JC.norm (i := 19) hf19 (JC.norm (i := 20) hf20 (JC.norm (i := 21) hf21 (JC.norm (i := 22) hf22 (JC.norm (i := 23) hf23 (JC.norm (i := 24) hf24 (JC.norm (i := 25) hf25 ?_)))))))))))))))))))))))
   refine JC.seq ?_
   refine JC.region (by rfl) ?_
   intro hQ
   refine JL.move .none rfl ?_
   refine JL.move .none rfl ?_
   refine JL.bin rfl rfl rfl .none rfl ?_
   refine JL.move .none rfl ?_
   refine JL.cut 4 (fun f => f 2 = .pointer (some ⟨b1, 0, none⟩) ∧ f 5 = .pointer (some ⟨b9, 0, none⟩) ∧ f 10 = y17a_v0 ∧ f 11 = .int .i64 y17.2 ∧ f 12 = y20a_v0 ∧ f 13 = .int .i64 y20.2 ∧ f 14 = .int .i64 y23.1 ∧ f 15 = .int .i64 y23.2 ∧ f 16 = .int .i64 y24.1 ∧ f 17 = .int .i64 y24.2 ∧ f 18 = .pointer (some ⟨b26, 0, none⟩) ∧ f 19 = .int .i64 y25.2 ∧ f 20 = .pointer (some ⟨b28, 0, none⟩) ∧ f 21 = .int .i64 y27.2 ∧ f 22 = .int .i64 y29.1 ∧ f 23 = .int .i64 y29.2 ∧ f 24 = .int .i64 y30.1 ∧ f 25 = .int .i64 y30.2 ∧ f 105 = .bool ((y15.1 == y16.1) && (y15.2 == y16.2))) ?_ ?_
   ·intro hJ31
    rcases bcases (y15.1 == y16.1) with hc32 | hc32
    ·skip
     refine JL.move (.some rfl rfl rfl hc32) rfl ?_
     refine JL.move (.some rfl rfl rfl hc32) rfl ?_
     refine JL.bin rfl rfl rfl (.some rfl rfl rfl hc32) rfl ?_
     refine JL.pick_t (b := (y15.1 == y16.1)) rfl hc32 .none rfl ?_
     exact hJ31 _ ⟨rfl, rfl, rfl, rfl, rfl, rfl, rfl, rfl, rfl, rfl, rfl, rfl, rfl, rfl, rfl, rfl, rfl, rfl, and_t hc32 rfl⟩
    ·skip
     refine JL.skip (.bool rfl rfl rfl hc32) rfl ?_
     refine JL.skip (.bool rfl rfl rfl hc32) rfl ?_
     refine JL.skip (.bool rfl rfl rfl hc32) rfl ?_
     refine JL.pick_f (b := (y15.1 == y16.1)) rfl hc32 .none rfl ?_
     exact hJ31 _ ⟨rfl, rfl, rfl, rfl, rfl, rfl, rfl, rfl, rfl, rfl, rfl, rfl, rfl, rfl, rfl, rfl, rfl, rfl, and_f hc32 rfl⟩
   ·rintro f ⟨hf2, hf5, hf10, hf11, hf12, hf13, hf14, hf15, hf16, hf17, hf18, hf19, hf20, hf21, hf22, hf23, hf24, hf25, hf105⟩
    refine (JL.norm (i := 2) hf2 (JL.norm (i := 5) hf5 (JL.norm (i := 10) hf10 (JL.norm (i := 11) hf11 (JL.norm (i := 12) hf12 (JL.norm (i := 13) hf13 (JL.norm (i := 14) hf14 (JL.norm (i := 15) hf15 (JL.norm (i := 16) hf16 (JL.norm (i := 17) hf17 (JL.norm (i := 18) hf18 (JL.norm (i := 19) hf19 (JL.norm (i := 20) hf20 (JL.norm (i := 21) hf21 (JL.norm (i := 22) hf22 (JL.norm (i := 23) hf23 (JL.norm (i := 24) hf24 (JL.norm (i := 25) hf25 (JL.norm (i := 105) hf105 ?_)))))))))))))))))))
    refine JL.move .none rfl ?_
    obtain ⟨p34, hp34, hF⟩ := bind_some hF
    refine JL.cut 4 (fun f => f 2 = .pointer (some ⟨b1, 0, none⟩) ∧ f 5 = .pointer (some ⟨b9, 0, none⟩) ∧ f 11 = .int .i64 y17.2 ∧ f 13 = .int .i64 y20.2 ∧ f 14 = .int .i64 y23.1 ∧ f 15 = .int .i64 y23.2 ∧ f 16 = .int .i64 y24.1 ∧ f 17 = .int .i64 y24.2 ∧ f 18 = .pointer (some ⟨b26, 0, none⟩) ∧ f 19 = .int .i64 y25.2 ∧ f 20 = .pointer (some ⟨b28, 0, none⟩) ∧ f 21 = .int .i64 y27.2 ∧ f 22 = .int .i64 y29.1 ∧ f 23 = .int .i64 y29.2 ∧ f 24 = .int .i64 y30.1 ∧ f 25 = .int .i64 y30.2 ∧ f 110 = .bool p34) ?_ ?_
    ·intro hJ35
     rcases ite_some hp34 with ⟨hc36, hF⟩ | ⟨hc36, hF⟩
     ·skip
      refine JL.move (.some rfl rfl rfl hc36) rfl ?_
      refine JL.move (.some rfl rfl rfl hc36) rfl ?_
      obtain ⟨y37, hy37, hF⟩ := bind_some hF
      refine JL.callS (c_law13_sameInts n H21 y17.1 y17a_v0 (SL.mono RInt.mono hs21 hy17a_0) y20.1 y20a_v0 hy20a_0 y37 hy37) rfl en_36 (.some rfl rfl rfl hc36) rfl ?_
      refine JL.pick_t (b := ((y15.1 == y16.1) && (y15.2 == y16.2))) rfl hc36 .none rfl ?_
      obtain rfl := Option.some.inj hF
      exact hJ35 _ ⟨rfl, rfl, rfl, rfl, rfl, rfl, rfl, rfl, rfl, rfl, rfl, rfl, rfl, rfl, rfl, rfl, rfl⟩
     ·skip
      refine JL.skip (.bool rfl rfl rfl hc36) rfl ?_
      refine JL.skip (.bool rfl rfl rfl hc36) rfl ?_
      refine JL.skip (.bool rfl rfl rfl hc36) rfl ?_
      refine JL.pick_f (b := ((y15.1 == y16.1) && (y15.2 == y16.2))) rfl hc36 .none rfl ?_
      obtain rfl := Option.some.inj hF
      exact hJ35 _ ⟨rfl, rfl, rfl, rfl, rfl, rfl, rfl, rfl, rfl, rfl, rfl, rfl, rfl, rfl, rfl, rfl, rfl⟩
    ·rintro f ⟨hf2, hf5, hf11, hf13, hf14, hf15, hf16, hf17, hf18, hf19, hf20, hf21, hf22, hf23, hf24, hf25, hf110⟩
     refine (JL.norm (i := 2) hf2 (JL.norm (i := 5) hf5 (JL.norm (i := 11) hf11 (JL.norm (i := 13) hf13 (JL.norm (i := 14) hf14 (JL.norm (i := 15) hf15 (JL.norm (i := 16) hf16 (JL.norm (i := 17) hf17 (JL.norm (i := 18) hf18 (JL.norm (i := 19) hf19 (JL.norm (i := 20) hf20 (JL.norm (i := 21) hf21 (JL.norm (i := 22) hf22 (JL.norm (i := 23) hf23 (JL.norm (i := 24) hf24 (JL.norm (i := 25) hf25 (JL.norm (i := 110) hf110 ?_)))))))))))))))))
     refine JL.move .none rfl ?_
     refine JL.cut 4 (fun f => f 2 = .pointer (some ⟨b1, 0, none⟩) ∧ f 5 = .pointer (some ⟨b9, 0, none⟩) ∧ f 14 = .int .i64 y23.1 ∧ f 15 = .int .i64 y23.2 ∧ f 16 = .int .i64 y24.1 ∧ f 17 = .int .i64 y24.2 ∧ f 18 = .pointer (some ⟨b26, 0, none⟩) ∧ f 19 = .int .i64 y25.2 ∧ f 20 = .pointer (some ⟨b28, 0, none⟩) ∧ f 21 = .int .i64 y27.2 ∧ f 22 = .int .i64 y29.1 ∧ f 23 = .int .i64 y29.2 ∧ f 24 = .int .i64 y30.1 ∧ f 25 = .int .i64 y30.2 ∧ f 115 = .bool (p34 && (y17.2 == y20.2))) ?_ ?_
     ·intro hJ38
      rcases bcases p34 with hc39 | hc39
      ·skip
       refine JL.move (.some rfl rfl rfl hc39) rfl ?_
       refine JL.move (.some rfl rfl rfl hc39) rfl ?_
       refine JL.bin rfl rfl rfl (.some rfl rfl rfl hc39) rfl ?_
       refine JL.pick_t (b := p34) rfl hc39 .none rfl ?_
       exact hJ38 _ ⟨rfl, rfl, rfl, rfl, rfl, rfl, rfl, rfl, rfl, rfl, rfl, rfl, rfl, rfl, and_t hc39 rfl⟩
      ·skip
       refine JL.skip (.bool rfl rfl rfl hc39) rfl ?_
       refine JL.skip (.bool rfl rfl rfl hc39) rfl ?_
       refine JL.skip (.bool rfl rfl rfl hc39) rfl ?_
       refine JL.pick_f (b := p34) rfl hc39 .none rfl ?_
       exact hJ38 _ ⟨rfl, rfl, rfl, rfl, rfl, rfl, rfl, rfl, rfl, rfl, rfl, rfl, rfl, rfl, and_f hc39 rfl⟩
     ·rintro f ⟨hf2, hf5, hf14, hf15, hf16, hf17, hf18, hf19, hf20, hf21, hf22, hf23, hf24, hf25, hf115⟩
      refine (JL.norm (i := 2) hf2 (JL.norm (i := 5) hf5 (JL.norm (i := 14) hf14 (JL.norm (i := 15) hf15 (JL.norm (i := 16) hf16 (JL.norm (i := 17) hf17 (JL.norm (i := 18) hf18 (JL.norm (i := 19) hf19 (JL.norm (i := 20) hf20 (JL.norm (i := 21) hf21 (JL.norm (i := 22) hf22 (JL.norm (i := 23) hf23 (JL.norm (i := 24) hf24 (JL.norm (i := 25) hf25 (JL.norm (i := 115) hf115 ?_)))))))))))))))
      refine JL.move .none rfl ?_
      refine JL.cut 4 (fun f => f 2 = .pointer (some ⟨b1, 0, none⟩) ∧ f 5 = .pointer (some ⟨b9, 0, none⟩) ∧ f 15 = .int .i64 y23.2 ∧ f 17 = .int .i64 y24.2 ∧ f 18 = .pointer (some ⟨b26, 0, none⟩) ∧ f 19 = .int .i64 y25.2 ∧ f 20 = .pointer (some ⟨b28, 0, none⟩) ∧ f 21 = .int .i64 y27.2 ∧ f 22 = .int .i64 y29.1 ∧ f 23 = .int .i64 y29.2 ∧ f 24 = .int .i64 y30.1 ∧ f 25 = .int .i64 y30.2 ∧ f 120 = .bool ((p34 && (y17.2 == y20.2)) && (y23.1 == y24.1))) ?_ ?_
      ·intro hJ40
       rcases bcases (p34 && (y17.2 == y20.2)) with hc41 | hc41
       ·skip
        refine JL.move (.some rfl rfl rfl hc41) rfl ?_
        refine JL.move (.some rfl rfl rfl hc41) rfl ?_
        refine JL.bin rfl rfl rfl (.some rfl rfl rfl hc41) rfl ?_
        refine JL.pick_t (b := (p34 && (y17.2 == y20.2))) rfl hc41 .none rfl ?_
        exact hJ40 _ ⟨rfl, rfl, rfl, rfl, rfl, rfl, rfl, rfl, rfl, rfl, rfl, rfl, and_t hc41 rfl⟩
       ·skip
        refine JL.skip (.bool rfl rfl rfl hc41) rfl ?_
        refine JL.skip (.bool rfl rfl rfl hc41) rfl ?_
        refine JL.skip (.bool rfl rfl rfl hc41) rfl ?_
        refine JL.pick_f (b := (p34 && (y17.2 == y20.2))) rfl hc41 .none rfl ?_
        exact hJ40 _ ⟨rfl, rfl, rfl, rfl, rfl, rfl, rfl, rfl, rfl, rfl, rfl, rfl, and_f hc41 rfl⟩
      ·rintro f ⟨hf2, hf5, hf15, hf17, hf18, hf19, hf20, hf21, hf22, hf23, hf24, hf25, hf120⟩
       refine (JL.norm (i := 2) hf2 (JL.norm (i := 5) hf5 (JL.norm (i := 15) hf15 (JL.norm (i := 17) hf17 (JL.norm (i := 18) hf18 (JL.norm (i := 19) hf19 (JL.norm (i := 20) hf20 (JL.norm (i := 21) hf21 (JL.norm (i := 22) hf22 (JL.norm (i := 23) hf23 (JL.norm (i := 24) hf24 (JL.norm (i := 25) hf25 (JL.norm (i := 120) hf120 ?_)))))))))))))
       refine JL.move .none rfl ?_
       refine JL.cut 4 (fun f => f 2 = .pointer (some ⟨b1, 0, none⟩) ∧ f 5 = .pointer (some ⟨b9, 0, none⟩) ∧ f 18 = .pointer (some ⟨b26, 0, none⟩) ∧ f 19 = .int .i64 y25.2 ∧ f 20 = .pointer (some ⟨b28, 0, none⟩) ∧ f 21 = .int .i64 y27.2 ∧ f 22 = .int .i64 y29.1 ∧ f 23 = .int .i64 y29.2 ∧ f 24 = .int .i64 y30.1 ∧ f 25 = .int .i64 y30.2 ∧ f 125 = .bool (((p34 && (y17.2 == y20.2)) && (y23.1 == y24.1)) && (y23.2 == y24.2))) ?_ ?_
       ·intro hJ42
        rcases bcases ((p34 && (y17.2 == y20.2)) && (y23.1 == y24.1)) with hc43 | hc43
        ·skip
         refine JL.move (.some rfl rfl rfl hc43) rfl ?_
         refine JL.move (.some rfl rfl rfl hc43) rfl ?_
         refine JL.bin rfl rfl rfl (.some rfl rfl rfl hc43) rfl ?_
         refine JL.pick_t (b := ((p34 && (y17.2 == y20.2)) && (y23.1 == y24.1))) rfl hc43 .none rfl ?_
         exact hJ42 _ ⟨rfl, rfl, rfl, rfl, rfl, rfl, rfl, rfl, rfl, rfl, and_t hc43 rfl⟩
        ·skip
         refine JL.skip (.bool rfl rfl rfl hc43) rfl ?_
         refine JL.skip (.bool rfl rfl rfl hc43) rfl ?_
         refine JL.skip (.bool rfl rfl rfl hc43) rfl ?_
         refine JL.pick_f (b := ((p34 && (y17.2 == y20.2)) && (y23.1 == y24.1))) rfl hc43 .none rfl ?_
         exact hJ42 _ ⟨rfl, rfl, rfl, rfl, rfl, rfl, rfl, rfl, rfl, rfl, and_f hc43 rfl⟩
       ·rintro f ⟨hf2, hf5, hf18, hf19, hf20, hf21, hf22, hf23, hf24, hf25, hf125⟩
        refine (JL.norm (i := 2) hf2 (JL.norm (i := 5) hf5 (JL.norm (i := 18) hf18 (JL.norm (i := 19) hf19 (JL.norm (i := 20) hf20 (JL.norm (i := 21) hf21 (JL.norm (i := 22) hf22 (JL.norm (i := 23) hf23 (JL.norm (i := 24) hf24 (JL.norm (i := 25) hf25 (JL.norm (i := 125) hf125 ?_)))))))))))
        refine JL.move .none rfl ?_
        refine JL.cut 4 (fun f => f 2 = .pointer (some ⟨b1, 0, none⟩) ∧ f 5 = .pointer (some ⟨b9, 0, none⟩) ∧ f 19 = .int .i64 y25.2 ∧ f 21 = .int .i64 y27.2 ∧ f 22 = .int .i64 y29.1 ∧ f 23 = .int .i64 y29.2 ∧ f 24 = .int .i64 y30.1 ∧ f 25 = .int .i64 y30.2 ∧ f 130 = .bool ((((p34 && (y17.2 == y20.2)) && (y23.1 == y24.1)) && (y23.2 == y24.2)) && ((y25.1.Low == y27.1.Low) && (y25.1.High == y27.1.High)))) ?_ ?_
        ·intro hJ44
         rcases bcases (((p34 && (y17.2 == y20.2)) && (y23.1 == y24.1)) && (y23.2 == y24.2)) with hc45 | hc45
         ·skip
          refine JL.loadOwn 1 az_42 rfl rfl rfl (.some rfl rfl rfl hc45) rfl ?_
          refine JL.loadOwn 0 az_42 rfl rfl rfl (.some rfl rfl rfl hc45) rfl ?_
          refine JL.eqAgg eqg_42 rfl rfl (fun w => eqa_42 y25.1.Low y25.1.High y27.1.Low y27.1.High w) (.some rfl rfl rfl hc45) rfl ?_
          refine JL.pick_t (b := (((p34 && (y17.2 == y20.2)) && (y23.1 == y24.1)) && (y23.2 == y24.2))) rfl hc45 .none rfl ?_
          exact hJ44 _ ⟨rfl, rfl, rfl, rfl, rfl, rfl, rfl, rfl, and_t hc45 rfl⟩
         ·skip
          refine JL.skip (.bool rfl rfl rfl hc45) rfl ?_
          refine JL.skip (.bool rfl rfl rfl hc45) rfl ?_
          refine JL.skip (.bool rfl rfl rfl hc45) rfl ?_
          refine JL.pick_f (b := (((p34 && (y17.2 == y20.2)) && (y23.1 == y24.1)) && (y23.2 == y24.2))) rfl hc45 .none rfl ?_
          exact hJ44 _ ⟨rfl, rfl, rfl, rfl, rfl, rfl, rfl, rfl, and_f hc45 rfl⟩
        ·rintro f ⟨hf2, hf5, hf19, hf21, hf22, hf23, hf24, hf25, hf130⟩
         refine (JL.norm (i := 2) hf2 (JL.norm (i := 5) hf5 (JL.norm (i := 19) hf19 (JL.norm (i := 21) hf21 (JL.norm (i := 22) hf22 (JL.norm (i := 23) hf23 (JL.norm (i := 24) hf24 (JL.norm (i := 25) hf25 (JL.norm (i := 130) hf130 ?_)))))))))
         refine JL.move .none rfl ?_
         refine JL.cut 4 (fun f => f 2 = .pointer (some ⟨b1, 0, none⟩) ∧ f 5 = .pointer (some ⟨b9, 0, none⟩) ∧ f 22 = .int .i64 y29.1 ∧ f 23 = .int .i64 y29.2 ∧ f 24 = .int .i64 y30.1 ∧ f 25 = .int .i64 y30.2 ∧ f 135 = .bool (((((p34 && (y17.2 == y20.2)) && (y23.1 == y24.1)) && (y23.2 == y24.2)) && ((y25.1.Low == y27.1.Low) && (y25.1.High == y27.1.High))) && (y25.2 == y27.2))) ?_ ?_
         ·intro hJ46
          rcases bcases ((((p34 && (y17.2 == y20.2)) && (y23.1 == y24.1)) && (y23.2 == y24.2)) && ((y25.1.Low == y27.1.Low) && (y25.1.High == y27.1.High))) with hc47 | hc47
          ·skip
           refine JL.move (.some rfl rfl rfl hc47) rfl ?_
           refine JL.move (.some rfl rfl rfl hc47) rfl ?_
           refine JL.bin rfl rfl rfl (.some rfl rfl rfl hc47) rfl ?_
           refine JL.pick_t (b := ((((p34 && (y17.2 == y20.2)) && (y23.1 == y24.1)) && (y23.2 == y24.2)) && ((y25.1.Low == y27.1.Low) && (y25.1.High == y27.1.High)))) rfl hc47 .none rfl ?_
           exact hJ46 _ ⟨rfl, rfl, rfl, rfl, rfl, rfl, and_t hc47 rfl⟩
          ·skip
           refine JL.skip (.bool rfl rfl rfl hc47) rfl ?_
           refine JL.skip (.bool rfl rfl rfl hc47) rfl ?_
           refine JL.skip (.bool rfl rfl rfl hc47) rfl ?_
           refine JL.pick_f (b := ((((p34 && (y17.2 == y20.2)) && (y23.1 == y24.1)) && (y23.2 == y24.2)) && ((y25.1.Low == y27.1.Low) && (y25.1.High == y27.1.High)))) rfl hc47 .none rfl ?_
           exact hJ46 _ ⟨rfl, rfl, rfl, rfl, rfl, rfl, and_f hc47 rfl⟩
         ·rintro f ⟨hf2, hf5, hf22, hf23, hf24, hf25, hf135⟩
          refine (JL.norm (i := 2) hf2 (JL.norm (i := 5) hf5 (JL.norm (i := 22) hf22 (JL.norm (i := 23) hf23 (JL.norm (i := 24) hf24 (JL.norm (i := 25) hf25 (JL.norm (i := 135) hf135 ?_)))))))
          refine JL.move .none rfl ?_
          refine JL.cut 4 (fun f => f 2 = .pointer (some ⟨b1, 0, none⟩) ∧ f 5 = .pointer (some ⟨b9, 0, none⟩) ∧ f 23 = .int .i64 y29.2 ∧ f 25 = .int .i64 y30.2 ∧ f 140 = .bool ((((((p34 && (y17.2 == y20.2)) && (y23.1 == y24.1)) && (y23.2 == y24.2)) && ((y25.1.Low == y27.1.Low) && (y25.1.High == y27.1.High))) && (y25.2 == y27.2)) && (y29.1 == y30.1))) ?_ ?_
          ·intro hJ48
           rcases bcases (((((p34 && (y17.2 == y20.2)) && (y23.1 == y24.1)) && (y23.2 == y24.2)) && ((y25.1.Low == y27.1.Low) && (y25.1.High == y27.1.High))) && (y25.2 == y27.2)) with hc49 | hc49
           ·skip
            refine JL.move (.some rfl rfl rfl hc49) rfl ?_
            refine JL.move (.some rfl rfl rfl hc49) rfl ?_
            refine JL.bin rfl rfl rfl (.some rfl rfl rfl hc49) rfl ?_
            refine JL.pick_t (b := (((((p34 && (y17.2 == y20.2)) && (y23.1 == y24.1)) && (y23.2 == y24.2)) && ((y25.1.Low == y27.1.Low) && (y25.1.High == y27.1.High))) && (y25.2 == y27.2))) rfl hc49 .none rfl ?_
            exact hJ48 _ ⟨rfl, rfl, rfl, rfl, and_t hc49 rfl⟩
           ·skip
            refine JL.skip (.bool rfl rfl rfl hc49) rfl ?_
            refine JL.skip (.bool rfl rfl rfl hc49) rfl ?_
            refine JL.skip (.bool rfl rfl rfl hc49) rfl ?_
            refine JL.pick_f (b := (((((p34 && (y17.2 == y20.2)) && (y23.1 == y24.1)) && (y23.2 == y24.2)) && ((y25.1.Low == y27.1.Low) && (y25.1.High == y27.1.High))) && (y25.2 == y27.2))) rfl hc49 .none rfl ?_
            exact hJ48 _ ⟨rfl, rfl, rfl, rfl, and_f hc49 rfl⟩
          ·rintro f ⟨hf2, hf5, hf23, hf25, hf140⟩
           refine (JL.norm (i := 2) hf2 (JL.norm (i := 5) hf5 (JL.norm (i := 23) hf23 (JL.norm (i := 25) hf25 (JL.norm (i := 140) hf140 ?_)))))
           refine JL.move .none rfl ?_
           refine JL.cut 4 (fun f => f 2 = .pointer (some ⟨b1, 0, none⟩) ∧ f 5 = .pointer (some ⟨b9, 0, none⟩) ∧ f 145 = .bool (((((((p34 && (y17.2 == y20.2)) && (y23.1 == y24.1)) && (y23.2 == y24.2)) && ((y25.1.Low == y27.1.Low) && (y25.1.High == y27.1.High))) && (y25.2 == y27.2)) && (y29.1 == y30.1)) && (y29.2 == y30.2))) ?_ ?_
           ·intro hJ50
            rcases bcases ((((((p34 && (y17.2 == y20.2)) && (y23.1 == y24.1)) && (y23.2 == y24.2)) && ((y25.1.Low == y27.1.Low) && (y25.1.High == y27.1.High))) && (y25.2 == y27.2)) && (y29.1 == y30.1)) with hc51 | hc51
            ·skip
             refine JL.move (.some rfl rfl rfl hc51) rfl ?_
             refine JL.move (.some rfl rfl rfl hc51) rfl ?_
             refine JL.bin rfl rfl rfl (.some rfl rfl rfl hc51) rfl ?_
             refine JL.pick_t (b := ((((((p34 && (y17.2 == y20.2)) && (y23.1 == y24.1)) && (y23.2 == y24.2)) && ((y25.1.Low == y27.1.Low) && (y25.1.High == y27.1.High))) && (y25.2 == y27.2)) && (y29.1 == y30.1))) rfl hc51 .none rfl ?_
             exact hJ50 _ ⟨rfl, rfl, and_t hc51 rfl⟩
            ·skip
             refine JL.skip (.bool rfl rfl rfl hc51) rfl ?_
             refine JL.skip (.bool rfl rfl rfl hc51) rfl ?_
             refine JL.skip (.bool rfl rfl rfl hc51) rfl ?_
             refine JL.pick_f (b := ((((((p34 && (y17.2 == y20.2)) && (y23.1 == y24.1)) && (y23.2 == y24.2)) && ((y25.1.Low == y27.1.Low) && (y25.1.High == y27.1.High))) && (y25.2 == y27.2)) && (y29.1 == y30.1))) rfl hc51 .none rfl ?_
             exact hJ50 _ ⟨rfl, rfl, and_f hc51 rfl⟩
           ·rintro f ⟨hf2, hf5, hf145⟩
            refine (JL.norm (i := 2) hf2 (JL.norm (i := 5) hf5 (JL.norm (i := 145) hf145 ?_)))
            refine JL.move .none rfl ?_
            obtain ⟨p53, hp53, hF⟩ := bind_some hF
            refine JL.cut 4 (fun f => f 150 = .bool p53) ?_ ?_
            ·intro hJ54
             rcases ite_some hp53 with ⟨hc55, hF⟩ | ⟨hc55, hF⟩
             ·skip
              refine JL.loadOwn 2 az_34 rfl rfl rfl (.some rfl rfl rfl hc55) rfl ?_
              refine JL.loadOwn 4 az_34 rfl rfl rfl (.some rfl rfl rfl hc55) rfl ?_
              obtain ⟨y56, hy56, hF⟩ := bind_some hF
              refine JL.callS (c_law13_same n H21 y6 y6a_v0 (SL.mono R_Section_mono (HSub.trans hs18 hs21) hy6a_0) y6a_v7 (SL.mono R_Span_mono (HSub.trans hs18 hs21) hy6a_7) y6a_v8 (SL.mono RInt.mono (HSub.trans hs18 hs21) hy6a_8) y6a_v9 (SL.mono R_Blow_mono (HSub.trans hs18 hs21) hy6a_9) y6a_v10 (SL.mono R_Meter_mono (HSub.trans hs18 hs21) hy6a_10) r r_v0 (SL.mono R_Section_mono (HSub.trans hs7 (HSub.trans hs18 hs21)) hr_0) r_v7 (SL.mono R_Span_mono (HSub.trans hs7 (HSub.trans hs18 hs21)) hr_7) r_v8 (SL.mono RInt.mono (HSub.trans hs7 (HSub.trans hs18 hs21)) hr_8) r_v9 (SL.mono R_Blow_mono (HSub.trans hs7 (HSub.trans hs18 hs21)) hr_9) r_v10 (SL.mono R_Meter_mono (HSub.trans hs7 (HSub.trans hs18 hs21)) hr_10) y56 hy56) rfl en_37 (.some rfl rfl rfl hc55) rfl ?_
              refine JL.pick_t (b := (((((((p34 && (y17.2 == y20.2)) && (y23.1 == y24.1)) && (y23.2 == y24.2)) && ((y25.1.Low == y27.1.Low) && (y25.1.High == y27.1.High))) && (y25.2 == y27.2)) && (y29.1 == y30.1)) && (y29.2 == y30.2))) rfl hc55 .none rfl ?_
              obtain rfl := Option.some.inj hF
              exact hJ54 _ (rfl)
             ·skip
              refine JL.skip (.bool rfl rfl rfl hc55) rfl ?_
              refine JL.skip (.bool rfl rfl rfl hc55) rfl ?_
              refine JL.skip (.bool rfl rfl rfl hc55) rfl ?_
              refine JL.pick_f (b := (((((((p34 && (y17.2 == y20.2)) && (y23.1 == y24.1)) && (y23.2 == y24.2)) && ((y25.1.Low == y27.1.Low) && (y25.1.High == y27.1.High))) && (y25.2 == y27.2)) && (y29.1 == y30.1)) && (y29.2 == y30.2))) rfl hc55 .none rfl ?_
              obtain rfl := Option.some.inj hF
              exact hJ54 _ (rfl)
            ·rintro f hf150
             refine (JL.norm (i := 150) hf150 ?_)
             refine JL.move .none rfl ?_
             obtain ⟨p58, hp58, hF⟩ := bind_some hF
             refine JL.cut 2 (fun f => f 153 = .bool p58) ?_ ?_
             ·intro hJ59
              rcases ite_some hp58 with ⟨hc60, hF⟩ | ⟨hc60, hF⟩
              ·skip
               obtain ⟨y61, hy61, hF⟩ := bind_some hF
               refine JL.callS (c_law13_works n H21 y61 hy61) rfl en_7 (.some rfl rfl rfl hc60) rfl ?_
               refine JL.pick_t (b := p53) rfl hc60 .none rfl ?_
               obtain rfl := Option.some.inj hF
               exact hJ59 _ (rfl)
              ·skip
               refine JL.skip (.bool rfl rfl rfl hc60) rfl ?_
               refine JL.pick_f (b := p53) rfl hc60 .none rfl ?_
               obtain rfl := Option.some.inj hF
               exact hJ59 _ (rfl)
             ·rintro f hf153
              refine (JL.norm (i := 153) hf153 ?_)
              refine JL.assign .none rfl ?_
              refine JL.done hQ ?_
              refine JQ.go ?_
              refine JC.ret ?_
              obtain rfl := Option.some.inj hF
              exact JQ.outS rfl (.tmp .nil) rfl
end Go.Proofs.YtcipdblhopffbaaGreat
end
section
namespace Go.Proofs.YtcipdblhopffbaaGreat
open Go Go.RowKit Go.Dec
theorem sorted_eq {a b : List Int} (ha : a.Pairwise (· < ·)) (hb : b.Pairwise (· < ·)) (h : ∀ x, x ∈ a ↔ x ∈ b) : a = b := by
  have na : a.Nodup := ha.imp fun {x y} hxy => by omega
  have nb : b.Nodup := hb.imp fun {x y} hxy => by omega
  have hp := (List.perm_ext_iff_of_nodup na nb).2 h
  exact List.Perm.eq_of_pairwise (le := (· < ·)) (fun x y _ _ h1 h2 => by omega) ha hb hp
theorem foldl_keep {α : Type} (p : α → Bool) : ∀ (l s : List α), l.foldl (fun s x => if p x = true then s ++ [x] else s) s = s ++ l.filter p := foldl_filter' p
/-- a span that grows -/
def widS (s : Span) (x : Int) : Span := ⟨min s.Low x, max s.High x⟩
section
variable {n : Nat} (hn : 200000000 ≤ n)
include hn
theorem p_FewestR {r : Run} (hs : SmallR r) : F_ref13_Fewest n r = some (fewestT r) := by
  simp only [F_ref13_Fewest, p_Check13 (n := n) (by omega) hs, Option.bind_some]
  by_cases hc : checkR r = 0
  · have hr := checkR_ok.1 hc
    have hnm := hr.nm; have hnb := hr.nb
    have hcl := cases_len hr
    have hl := loop_foldl (step := F_ref13_Fewest_s1 n r (casesS r.Blows)) (casesS r.Blows) (fun i (s : Int) => (s, (i : Int))) (fun s c => min s (wrongC r.Meters c : Int)) (fun s => s) (n := n) (r.Meters.length : Int) (fun i c s hf hi => by
      have hc := casesS_len (List.mem_of_getElem? hf)
      simp only [F_ref13_Fewest_s1, lt_nat, hi, decide_true, if_true, geti_nat, hf, p_Wrongs hn (r := r) (c := c) (by omega) (by omega), Option.bind_some, w64_nat (show i ≤ 4611686018427387904 by omega)]) (fun s => by
      simp [F_ref13_Fewest_s1]) (by omega)
    rw [hc]
    simp only [bne_self_eq_false, Bool.false_eq_true, if_false, p_cases0 hn hr, Option.bind_some]
    rw [show (0 : Int) = ((0 : Nat) : Int) from rfl, hl, Option.bind_some]
    unfold fewestT
    rw [if_pos hc]; rfl
  · have : (checkR r != 0) = true := by simpa using hc
    simp only [this, if_true]
    unfold fewestT
    rw [if_neg hc]
theorem p_ManyR {r : Run} (hs : SmallR r) : F_ref13_Many n r = some (manyC r) := by
  simp only [F_ref13_Many, p_known hn hs, Option.bind_some, knownT, manyC]
  split <;> simp
theorem wi_len (n : Nat) (i : Int) {k : Nat} (hk : k ≤ 1000) : F_ref13_within n i 0 (w64 ((k : Int) - 1)) = some (wi i 0 ((k : Int) - 1)) := by
  have _hn := hn
  rw [w64_id (by omega) (by omega), p_within13]
theorem p_RightR {r : Run} (hs : SmallR r) (i : Int) : F_ref13_Right n r i = some (rightT r i) := by
  have hs2 := hs.2
  simp only [F_ref13_Right, wi_len hn n i (show r.Meters.length ≤ 1000 by omega), p_known hn hs, Option.bind_some]
  unfold rightT
  generalize hw : wi i 0 ((r.Meters.length : Int) - 1) = is
  by_cases e : errR r is = 0
  · obtain ⟨hr, his, hne⟩ := errR_ok e
    rw [his] at hw
    have hwi := wi_t.1 hw
    have hil : i.toNat < r.Meters.length := by omega
    have hnb := hr.nb
    have hm : geti r.Meters i = some (meterAt r i) := by
      unfold meterAt
      obtain ⟨k, rfl⟩ : ∃ k : Nat, i = k := ⟨i.toNat, by omega⟩
      rw [geti_nat, Int.toNat_natCast, List.getElem?_eq_getElem (by simpa using hil)]; rfl
    have htl := truths_len hr
    rw [known_ok e, if_pos e]
    have hl := loop_fold (step := F_ref13_Right_s1 n r i (truthsC r, 0)) (truthsC r) (fun i (k : Nat) => ((k : Int), (i : Int))) (fun k c => if rightC (meterAt r i) c = true then k + 1 else k) (fun k => (k : Int)) (fun i k => k ≤ i) (n := n) 0 (Nat.le_refl _) (fun j c k hf hk => by
      have hj : j < (truthsC r).length := (List.getElem?_eq_some_iff.1 hf).1
      have hcl := casesS_len (truth_case (List.mem_of_getElem? hf))
      simp only [F_ref13_Right_s1, lt_nat, hj, decide_true, if_true, geti_nat, hf, hm, p_IsRight13 hn (c := c) (by omega), Option.bind_some, w64_nat (show j ≤ 4611686018427387904 by omega), w64_nat (show k ≤ 4611686018427387904 by omega)]
      cases rightC (meterAt r i) c
      · simp only [Bool.false_eq_true, if_false, Option.bind_some]; exact ⟨trivial, by omega⟩
      · simp only [if_true, Option.bind_some]; exact ⟨trivial, by omega⟩) (fun k hk => by
      simp [F_ref13_Right_s1]) (by omega)
    have h1 := hl.1
    rw [foldl_cnt (rightC (meterAt r i)), Nat.zero_add] at h1
    simp only [bne_self_eq_false, Bool.false_eq_true, if_false]
    rw [show ((0 : Int), (0 : Int)) = (((0 : Nat) : Int), ((0 : Nat) : Int)) from rfl, h1, Option.bind_some]
    simp only [F_ref13_is]
    have hpos : 0 < (truthsC r).length := List.length_pos_iff.2 hne
    by_cases ha : ((truthsC r).all (rightC (meterAt r i))) = true
    · have : (truthsC r).countP (rightC (meterAt r i)) = (truthsC r).length := List.countP_eq_length.2 (List.all_eq_true.1 ha)
      simp [this, ha]
    · have h3 : ¬ (truthsC r).countP (rightC (meterAt r i)) = (truthsC r).length := fun h => ha (List.all_eq_true.2 (List.countP_eq_length.1 h))
      have h4 : (((truthsC r).countP (rightC (meterAt r i)) : Int) == ((truthsC r).length : Int)) = false := by simp; omega
      simp only [h4, Bool.false_eq_true, if_false, ha]
      by_cases hb : ((truthsC r).all fun c => !rightC (meterAt r i) c) = true
      · have : (truthsC r).countP (rightC (meterAt r i)) = 0 := List.countP_eq_zero.2 fun c hc => by
          have := List.all_eq_true.1 hb c hc
          simpa using this
        simp [this, hb]
      · have h5 : ¬ (truthsC r).countP (rightC (meterAt r i)) = 0 := fun h => hb (List.all_eq_true.2 fun c hc => by
          have := List.countP_eq_zero.1 h c hc
          simpa using this)
        have h6 : (((truthsC r).countP (rightC (meterAt r i)) : Int) == 0) = false := by rw [beq_eq_false_iff_ne]; omega
        simp only [h6, Bool.false_eq_true, if_false, hb, Option.bind_some]
  · unfold knownT
    have : (errR r is != 0) = true := by simpa using e
    simp only [if_neg e, this, if_true]
theorem wider_first (x : Int) (s : Span) : F_ref13_wider n s x true = some ⟨x, x⟩ := by
  have _hn := hn
  simp [F_ref13_wider]
theorem wider_next (x : Int) (s : Span) : F_ref13_wider n s x false = some (widS s x) := by
  have _hn := hn
  simp [F_ref13_wider, widS]
theorem p_ReadsR {r : Run} (hs : SmallR r) (limit : Int) : F_ref13_Reads n r limit = some (readsT r limit) := by
  simp only [F_ref13_Reads, p_within13, p_known hn hs, Option.bind_some]
  unfold readsT boundsT
  generalize wi limit 0 99 = is
  by_cases e : errR r is = 0
  · obtain ⟨hr, his, hne⟩ := errR_ok e
    have hnb := hr.nb
    have htl := truths_len hr
    rw [known_ok e, if_pos e]
    have key := loop_run (step := F_ref13_Reads_s1 n limit (truthsC r, 0)) (fun j => if j = 0 then ((0 : Int), (0 : Int), (0 : Int)) else ((j : Int), fmin (fun c => (askN (readsA limit) r.Blows c : Int)) ((truthsC r).take j) r.Blows.length, fmax (fun c => (askN (readsA limit) r.Blows c : Int)) ((truthsC r).take j) 0)) (r := (fmin (fun c => (askN (readsA limit) r.Blows c : Int)) (truthsC r) r.Blows.length, fmax (fun c => (askN (readsA limit) r.Blows c : Int)) (truthsC r) 0)) (truthsC r).length 0 n (fun j _ hj => by
      have hj : j < (truthsC r).length := by omega
      obtain ⟨c, hf⟩ : ∃ c, (truthsC r)[j]? = some c := ⟨_, List.getElem?_eq_getElem hj⟩
      have hcl := casesS_len (truth_case (List.mem_of_getElem? hf))
      have hca : (aboveS c limit : Int) = (askN (readsA limit) r.Blows c : Int) := by rw [askN_readsA hcl]
      have h1 := askN_le (readsA limit) r.Blows c
      have ht : (truthsC r).take (j + 1) = (truthsC r).take j ++ [c] := by rw [List.take_add_one, hf]; rfl
      rw [if_neg (show ¬ j + 1 = 0 by omega), ht]
      unfold fmin fmax
      rw [List.foldl_append, List.foldl_append]
      rcases Nat.eq_zero_or_pos j with h0 | h0
      · subst h0
        have hg : geti (truthsC r) 0 = some c := by
          have := geti_nat (truthsC r) 0
          rw [show ((0 : Nat) : Int) = 0 from rfl] at this
          rw [this]; exact hf
        have hlt : (0 : Int) < ((truthsC r).length : Int) := by omega
        have hw1 : w64 (0 + 1) = 1 := by decide
        simp only [if_true, F_ref13_Reads_s1, decide_eq_true hlt, hg, p_Above13 hn (c := c) (by omega), Option.bind_some, beq_self_eq_true, wider_first hn, hw1, List.take_zero, List.foldl_nil, List.foldl_cons, hca]
        rw [Int.min_eq_right (by omega), Int.max_eq_right (by omega)]
        rfl
      · have hz : ((j : Int) == 0) = false := by simp; omega
        simp only [if_neg (show ¬ j = 0 by omega), F_ref13_Reads_s1, lt_nat, hj, decide_true, if_true, geti_nat, hf, p_Above13 hn (c := c) (by omega), Option.bind_some, hz, wider_next hn, w64_nat (show j ≤ 4611686018427387904 by omega), List.foldl_nil, List.foldl_cons, hca, widS]) (by
      have hpos : 0 < (truthsC r).length := List.length_pos_iff.2 hne
      rw [Nat.zero_add, if_neg (by omega), List.take_length]
      simp [F_ref13_Reads_s1]) (by omega)
    simp only [if_true] at key
    rw [key]; rfl
  · rw [if_neg e]
    unfold knownT
    rw [if_neg e]
    have hl : loopO n (F_ref13_Reads_s1 n limit (([] : List (List Int)), errR r is)) (0, 0, 0) = some (0, 0) := loop_done (by simp [F_ref13_Reads_s1]) (by omega)
    simp only [hl, Option.bind_some]
theorem p_ForcesR {r : Run} (hs : SmallR r) (i : Int) : F_ref13_Forces n r i = some (forcesT r i) := by
  have hs2 := hs.2
  simp only [F_ref13_Forces, wi_len hn n i (show r.Blows.length ≤ 1000 by omega), p_known hn hs, Option.bind_some]
  unfold forcesT
  generalize hw : wi i 0 ((r.Blows.length : Int) - 1) = is
  -- the inner loop: is this force one of a truth?
  have hl : ∀ (T : List (List Int)) (e : Int), T.length ≤ 100000000 → (∀ c ∈ T, ∃ x, geti c i = some x) → loopO n (F_ref13_Forces_s1 n i (T, e)) (0, []) = some ((span 0 99).filter fun f => T.any fun c => geti c i == some f) := fun T e hT hx => by
    have h1 := loop_span (step := F_ref13_Forces_s1 n i (T, e)) (hi := 99) (fun s f => if (T.any fun c => geti c i == some f) = true then s ++ [f] else s) (fun s => s) (fun f s => 0 ≤ f ∧ s.length ≤ f.toNat) _ 0 [] n rfl ⟨by omega, by simp⟩ (fun f s h1 h2 hI => by
      have hlim : lim (s ++ [f]) = some (s ++ [f]) := lim_ok (by simp; omega)
      have h3 : loopO n (F_ref13_Forces_s2 n i (T, e) f s) 0 = some (if (T.any fun c => geti c i == some f) = true then s ++ [f] else s) := by
        have key : ∀ (k j m : Nat), j + k = T.length → k < m → loopO m (F_ref13_Forces_s2 n i (T, e) f s) (j : Int) = some (if ((T.drop j).any fun c => geti c i == some f) = true then s ++ [f] else s) := by
          intro k
          induction k with
          | zero =>
            intro j m hj hm
            rw [List.drop_eq_nil_of_le (by omega)]
            exact loop_done (by simp [F_ref13_Forces_s2, show ¬ (j : Int) < (T.length : Int) by omega]) hm
          | succ k ih =>
            intro j m hj hm
            obtain ⟨m, rfl⟩ : ∃ k, m = k + 1 := ⟨m - 1, by omega⟩
            have hjl : j < T.length := by omega
            obtain ⟨x, hxe⟩ := hx _ (List.getElem_mem hjl)
            have hg : T[j]? = some T[j] := List.getElem?_eq_getElem hjl
            rw [loopO_succ, List.drop_eq_getElem_cons hjl, List.any_cons]
            simp only [F_ref13_Forces_s2, lt_nat, hjl, decide_true, if_true, geti_nat, hg, hxe, Option.bind_some]
            by_cases hq : x = f
            · subst hq
              simp [hlim]
            · have hq' : (x == f) = false := by simpa using hq
              have := ih (j + 1) m (by omega) (by omega)
              simp only [hq', Bool.false_eq_true, if_false, w64_nat (show j ≤ 4611686018427387904 by omega), this]
              simp [hq]
        have := key T.length 0 n (by omega) (by omega)
        simpa using this
      refine ⟨?_, by omega, ?_⟩
      · simp only [F_ref13_Forces_s1, decide_eq_true h2, if_true, h3, Option.bind_some, w64_id (show -9223372036854775808 ≤ f + 1 by omega) (show f + 1 ≤ 9223372036854775807 by omega)]
      · split
        · rw [List.length_append, List.length_singleton]; omega
        · omega) (fun f s hf => by
      simp only [F_ref13_Forces_s1, decide_eq_false (show ¬ f ≤ 99 by omega), Bool.false_eq_true, if_false]) (by omega)
    rw [h1, foldl_keep, List.nil_append]
  by_cases e : errR r is = 0
  · obtain ⟨hr, his, hne⟩ := errR_ok e
    rw [his] at hw
    have hwi := wi_t.1 hw
    have htl := truths_len hr
    rw [known_ok e, if_pos e]
    obtain ⟨k, rfl⟩ : ∃ k : Nat, i = k := ⟨i.toNat, by omega⟩
    have hkl : k < r.Blows.length := by omega
    rw [hl _ _ htl fun c hc => by
      have := casesS_len (truth_case hc)
      exact ⟨_, by rw [geti_nat]; exact List.getElem?_eq_getElem (by omega)⟩]
    simp only [Option.bind_some]
    congr 2
    refine sorted_eq ((span_sorted _ _).filter _) (forces_sorted _ _) fun f => ?_
    rw [forces_mem hr (by omega) (by omega), List.mem_filter, List.any_eq_true]
    simp only [Int.toNat_natCast, geti_nat, beq_iff_eq]
    constructor
    · rintro ⟨_, c, hc, h⟩; exact ⟨c, hc, h⟩
    · rintro ⟨c, hc, h⟩
      refine ⟨?_, c, hc, h⟩
      have hb := hr.b _ (List.getElem_mem hkl)
      have h2 := (mem_cases.1 (truth_case hc)).2 k _ _ (List.getElem?_eq_getElem hkl) h
      have := hb.lo; have := hb.hi
      exact span_mem'.2 ⟨by omega, by omega⟩
  · rw [if_neg e]
    unfold knownT
    rw [if_neg e, hl _ _ (by simp) (by simp)]
    simp
end
end Go.Proofs.YtcipdblhopffbaaGreat
end
section
namespace Go.Dec
open Go Go.RowKit
theorem Kept.plain {H : Hp} {w w' : World} (h : Kept H w w') (hh : H.hole = none) : Below w.heap.size w w' :=
  ⟨h.below.os, h.below.tape, h.below.output, h.below.size, fun k hk => h.below.block k hk (fun I e => by rw [hh] at e; cases e)⟩
end Go.Dec
end
section
namespace Go.Proofs.YtcipdblhopffbaaGreat
open Go Go.RowKit Go.Dec
set_option linter.unusedVariables false
def W_Span (x : Span) : Prop := I64 x.Low ∧ I64 x.High
set_option maxRecDepth 100000 in
theorem o_Span {T : Type} {enc : TypeId × Value → T} : Opens enc Tryz.prog 42 2 R_Span W_Span := by
  intro w base sp held fuel cs y h
  obtain ⟨xs, n, _, rfl, hl, hlen, hf⟩ := DataW.trod_struct Tryz.underlying42 h
  have hl2 : cs.length = 2 := hl.trans (by kernel_rfl)
  have hx : xs.length = 2 := hlen
  obtain ⟨c0, c1, rfl⟩ : ∃ c0 c1, cs = [c0, c1] := by
    match cs, hl2 with
    | [c0, c1], _ => exact ⟨_, _, rfl⟩
  have co3 : Tryz.prog.cellsOf 3 = 1 := by kernel_rfl
  have e0 : DataW.trod enc Tryz.prog w base sp held n 3 (([c0, c1].drop 0).take (Tryz.prog.cellsOf 3)) = xs[0]? := hf 0 _ rfl
  rw [co3] at e0
  obtain ⟨_, x0, r0, w0⟩ := (Opens.int (by kernel_rfl)) _ _ _ _ _ _ _ (e0.trans (List.getElem?_eq_getElem (by omega)))
  have e1 : DataW.trod enc Tryz.prog w base sp held n 3 (([c0, c1].drop 1).take (Tryz.prog.cellsOf 3)) = xs[1]? := hf 1 _ rfl
  rw [co3] at e1
  obtain ⟨_, x1, r1, w1⟩ := (Opens.int (by kernel_rfl)) _ _ _ _ _ _ _ (e1.trans (List.getElem?_eq_getElem (by omega)))
  have q0 : [c0] = [_] := r0
  cases q0
  have q1 : [c1] = [_] := r1
  cases q1
  exact ⟨rfl, ⟨x0, x1⟩, rfl, w0, w1⟩
def W_Frac (x : Frac) : Prop := I64 x.Num ∧ I64 x.Den
set_option maxRecDepth 100000 in
theorem o_Frac {T : Type} {enc : TypeId × Value → T} : Opens enc Tryz.prog 24 2 R_Frac W_Frac := by
  intro w base sp held fuel cs y h
  obtain ⟨xs, n, _, rfl, hl, hlen, hf⟩ := DataW.trod_struct Tryz.underlying24 h
  have hl2 : cs.length = 2 := hl.trans (by kernel_rfl)
  have hx : xs.length = 2 := hlen
  obtain ⟨c0, c1, rfl⟩ : ∃ c0 c1, cs = [c0, c1] := by
    match cs, hl2 with
    | [c0, c1], _ => exact ⟨_, _, rfl⟩
  have co3 : Tryz.prog.cellsOf 3 = 1 := by kernel_rfl
  have e0 : DataW.trod enc Tryz.prog w base sp held n 3 (([c0, c1].drop 0).take (Tryz.prog.cellsOf 3)) = xs[0]? := hf 0 _ rfl
  rw [co3] at e0
  obtain ⟨_, x0, r0, w0⟩ := (Opens.int (by kernel_rfl)) _ _ _ _ _ _ _ (e0.trans (List.getElem?_eq_getElem (by omega)))
  have e1 : DataW.trod enc Tryz.prog w base sp held n 3 (([c0, c1].drop 1).take (Tryz.prog.cellsOf 3)) = xs[1]? := hf 1 _ rfl
  rw [co3] at e1
  obtain ⟨_, x1, r1, w1⟩ := (Opens.int (by kernel_rfl)) _ _ _ _ _ _ _ (e1.trans (List.getElem?_eq_getElem (by omega)))
  have q0 : [c0] = [_] := r0
  cases q0
  have q1 : [c1] = [_] := r1
  cases q1
  exact ⟨rfl, ⟨x0, x1⟩, rfl, w0, w1⟩
def W_Section (x : Section) : Prop := W_Span x.Arm ∧ W_Span x.Stretch ∧ I64 x.Base ∧ W_Frac x.Gear
set_option maxRecDepth 100000 in
theorem o_Section {T : Type} {enc : TypeId × Value → T} : Opens enc Tryz.prog 124 7 R_Section W_Section := by
  intro w base sp held fuel cs y h
  obtain ⟨xs, n, _, rfl, hl, hlen, hf⟩ := DataW.trod_struct Tryz.underlying124 h
  have hl2 : cs.length = 7 := hl.trans (by kernel_rfl)
  have hx : xs.length = 4 := hlen
  obtain ⟨c0, c1, c2, c3, c4, c5, c6, rfl⟩ : ∃ c0 c1 c2 c3 c4 c5 c6, cs = [c0, c1, c2, c3, c4, c5, c6] := by
    match cs, hl2 with
    | [c0, c1, c2, c3, c4, c5, c6], _ => exact ⟨_, _, _, _, _, _, _, rfl⟩
  have co3 : Tryz.prog.cellsOf 3 = 1 := by kernel_rfl
  have co24 : Tryz.prog.cellsOf 24 = 2 := by kernel_rfl
  have co42 : Tryz.prog.cellsOf 42 = 2 := by kernel_rfl
  have e0 : DataW.trod enc Tryz.prog w base sp held n 42 (([c0, c1, c2, c3, c4, c5, c6].drop 0).take (Tryz.prog.cellsOf 42)) = xs[0]? := hf 0 _ rfl
  rw [co42] at e0
  obtain ⟨_, x0, r0, w0⟩ := o_Span _ _ _ _ _ _ _ (e0.trans (List.getElem?_eq_getElem (by omega)))
  have e1 : DataW.trod enc Tryz.prog w base sp held n 42 (([c0, c1, c2, c3, c4, c5, c6].drop 2).take (Tryz.prog.cellsOf 42)) = xs[1]? := hf 1 _ rfl
  rw [co42] at e1
  obtain ⟨_, x1, r1, w1⟩ := o_Span _ _ _ _ _ _ _ (e1.trans (List.getElem?_eq_getElem (by omega)))
  have e2 : DataW.trod enc Tryz.prog w base sp held n 3 (([c0, c1, c2, c3, c4, c5, c6].drop 4).take (Tryz.prog.cellsOf 3)) = xs[2]? := hf 2 _ rfl
  rw [co3] at e2
  obtain ⟨_, x2, r2, w2⟩ := (Opens.int (by kernel_rfl)) _ _ _ _ _ _ _ (e2.trans (List.getElem?_eq_getElem (by omega)))
  have e3 : DataW.trod enc Tryz.prog w base sp held n 24 (([c0, c1, c2, c3, c4, c5, c6].drop 5).take (Tryz.prog.cellsOf 24)) = xs[3]? := hf 3 _ rfl
  rw [co24] at e3
  obtain ⟨_, x3, r3, w3⟩ := o_Frac _ _ _ _ _ _ _ (e3.trans (List.getElem?_eq_getElem (by omega)))
  have q0 : [c0, c1] = _ := r0
  cases q0
  have q1 : [c2, c3] = _ := r1
  cases q1
  have q2 : [c4] = [_] := r2
  cases q2
  have q3 : [c5, c6] = _ := r3
  cases q3
  exact ⟨rfl, ⟨x0, x1, x2, x3⟩, rfl, w0, w1, w2, w3⟩
def W_Frame (x : Frame) : Prop := (fun (l : List Section) => (∀ x ∈ l, W_Section x) ∧ l.length ≤ 9223372036854775807) x.Sections ∧ I64 x.Low ∧ I64 x.High ∧ W_Frac x.Ease ∧ I64 x.Rod ∧ I64 x.Case
set_option maxRecDepth 100000 in
theorem o_Frame {T : Type} {enc : TypeId × Value → T} : Opens enc Tryz.prog 26 7 R_Frame W_Frame := by
  intro w base sp held fuel cs y h
  obtain ⟨xs, n, _, rfl, hl, hlen, hf⟩ := DataW.trod_struct Tryz.underlying26 h
  have hl2 : cs.length = 7 := hl.trans (by kernel_rfl)
  have hx : xs.length = 6 := hlen
  obtain ⟨c0, c1, c2, c3, c4, c5, c6, rfl⟩ : ∃ c0 c1 c2 c3 c4 c5 c6, cs = [c0, c1, c2, c3, c4, c5, c6] := by
    match cs, hl2 with
    | [c0, c1, c2, c3, c4, c5, c6], _ => exact ⟨_, _, _, _, _, _, _, rfl⟩
  have co3 : Tryz.prog.cellsOf 3 = 1 := by kernel_rfl
  have co22 : Tryz.prog.cellsOf 22 = 1 := by kernel_rfl
  have co24 : Tryz.prog.cellsOf 24 = 2 := by kernel_rfl
  have e0 : DataW.trod enc Tryz.prog w base sp held n 22 (([c0, c1, c2, c3, c4, c5, c6].drop 0).take (Tryz.prog.cellsOf 22)) = xs[0]? := hf 0 _ rfl
  rw [co22] at e0
  obtain ⟨_, x0, r0, w0⟩ := (Opens.slice (e := 124) (sz := 7) (by kernel_rfl) (by kernel_rfl) rfl o_Section) _ _ _ _ _ _ _ (e0.trans (List.getElem?_eq_getElem (by omega)))
  have e1 : DataW.trod enc Tryz.prog w base sp held n 3 (([c0, c1, c2, c3, c4, c5, c6].drop 1).take (Tryz.prog.cellsOf 3)) = xs[1]? := hf 1 _ rfl
  rw [co3] at e1
  obtain ⟨_, x1, r1, w1⟩ := (Opens.int (by kernel_rfl)) _ _ _ _ _ _ _ (e1.trans (List.getElem?_eq_getElem (by omega)))
  have e2 : DataW.trod enc Tryz.prog w base sp held n 3 (([c0, c1, c2, c3, c4, c5, c6].drop 2).take (Tryz.prog.cellsOf 3)) = xs[2]? := hf 2 _ rfl
  rw [co3] at e2
  obtain ⟨_, x2, r2, w2⟩ := (Opens.int (by kernel_rfl)) _ _ _ _ _ _ _ (e2.trans (List.getElem?_eq_getElem (by omega)))
  have e3 : DataW.trod enc Tryz.prog w base sp held n 24 (([c0, c1, c2, c3, c4, c5, c6].drop 3).take (Tryz.prog.cellsOf 24)) = xs[3]? := hf 3 _ rfl
  rw [co24] at e3
  obtain ⟨_, x3, r3, w3⟩ := o_Frac _ _ _ _ _ _ _ (e3.trans (List.getElem?_eq_getElem (by omega)))
  have e4 : DataW.trod enc Tryz.prog w base sp held n 3 (([c0, c1, c2, c3, c4, c5, c6].drop 5).take (Tryz.prog.cellsOf 3)) = xs[4]? := hf 4 _ rfl
  rw [co3] at e4
  obtain ⟨_, x4, r4, w4⟩ := (Opens.int (by kernel_rfl)) _ _ _ _ _ _ _ (e4.trans (List.getElem?_eq_getElem (by omega)))
  have e5 : DataW.trod enc Tryz.prog w base sp held n 3 (([c0, c1, c2, c3, c4, c5, c6].drop 6).take (Tryz.prog.cellsOf 3)) = xs[5]? := hf 5 _ rfl
  rw [co3] at e5
  obtain ⟨_, x5, r5, w5⟩ := (Opens.int (by kernel_rfl)) _ _ _ _ _ _ _ (e5.trans (List.getElem?_eq_getElem (by omega)))
  obtain ⟨v0, q0, s0⟩ := r0
  have q0 : [c0] = [v0] := q0
  cases q0
  have q1 : [c1] = [_] := r1
  cases q1
  have q2 : [c2] = [_] := r2
  cases q2
  have q3 : [c3, c4] = _ := r3
  cases q3
  have q4 : [c5] = [_] := r4
  cases q4
  have q5 : [c6] = [_] := r5
  cases q5
  exact ⟨rfl, ⟨x0, x1, x2, x3, x4, x5⟩, ⟨c0, rfl, s0⟩, w0, w1, w2, w3, w4, w5⟩
def W_Canopy (x : Canopy) : Prop := W_Frame x.Frame ∧ (fun (l : List Span) => (∀ x ∈ l, W_Span x) ∧ l.length ≤ 9223372036854775807) x.Ribs ∧ (fun (l : List Int) => (∀ x ∈ l, I64 x) ∧ l.length ≤ 9223372036854775807) x.Shares
set_option maxRecDepth 100000 in
theorem o_Canopy {T : Type} {enc : TypeId × Value → T} : Opens enc Tryz.prog 30 9 R_Canopy W_Canopy := by
  intro w base sp held fuel cs y h
  obtain ⟨xs, n, _, rfl, hl, hlen, hf⟩ := DataW.trod_struct Tryz.underlying30 h
  have hl2 : cs.length = 9 := hl.trans (by kernel_rfl)
  have hx : xs.length = 3 := hlen
  obtain ⟨c0, c1, c2, c3, c4, c5, c6, c7, c8, rfl⟩ : ∃ c0 c1 c2 c3 c4 c5 c6 c7 c8, cs = [c0, c1, c2, c3, c4, c5, c6, c7, c8] := by
    match cs, hl2 with
    | [c0, c1, c2, c3, c4, c5, c6, c7, c8], _ => exact ⟨_, _, _, _, _, _, _, _, _, rfl⟩
  have co26 : Tryz.prog.cellsOf 26 = 7 := by kernel_rfl
  have co27 : Tryz.prog.cellsOf 27 = 1 := by kernel_rfl
  have co28 : Tryz.prog.cellsOf 28 = 1 := by kernel_rfl
  have e0 : DataW.trod enc Tryz.prog w base sp held n 26 (([c0, c1, c2, c3, c4, c5, c6, c7, c8].drop 0).take (Tryz.prog.cellsOf 26)) = xs[0]? := hf 0 _ rfl
  rw [co26] at e0
  obtain ⟨_, x0, r0, w0⟩ := o_Frame _ _ _ _ _ _ _ (e0.trans (List.getElem?_eq_getElem (by omega)))
  have e1 : DataW.trod enc Tryz.prog w base sp held n 27 (([c0, c1, c2, c3, c4, c5, c6, c7, c8].drop 7).take (Tryz.prog.cellsOf 27)) = xs[1]? := hf 1 _ rfl
  rw [co27] at e1
  obtain ⟨_, x1, r1, w1⟩ := (Opens.slice (e := 42) (sz := 2) (by kernel_rfl) (by kernel_rfl) rfl o_Span) _ _ _ _ _ _ _ (e1.trans (List.getElem?_eq_getElem (by omega)))
  have e2 : DataW.trod enc Tryz.prog w base sp held n 28 (([c0, c1, c2, c3, c4, c5, c6, c7, c8].drop 8).take (Tryz.prog.cellsOf 28)) = xs[2]? := hf 2 _ rfl
  rw [co28] at e2
  obtain ⟨_, x2, r2, w2⟩ := (Opens.slice (e := 3) (sz := 1) (by kernel_rfl) (by kernel_rfl) rfl (Opens.int (by kernel_rfl))) _ _ _ _ _ _ _ (e2.trans (List.getElem?_eq_getElem (by omega)))
  obtain ⟨v0_0, q0, s0_0⟩ := r0
  cases q0
  obtain ⟨v1, q1, s1⟩ := r1
  have q1 : [c7] = [v1] := q1
  cases q1
  obtain ⟨v2, q2, s2⟩ := r2
  have q2 : [c8] = [v2] := q2
  cases q2
  exact ⟨rfl, ⟨x0, x1, x2⟩, ⟨c0, c7, c8, rfl, s0_0, s1, s2⟩, w0, w1, w2⟩
def W_Blow (x : Blow) : Prop := I64 x.At ∧ W_Span x.Force
set_option maxRecDepth 100000 in
theorem o_Blow {T : Type} {enc : TypeId × Value → T} : Opens enc Tryz.prog 62 3 R_Blow W_Blow := by
  intro w base sp held fuel cs y h
  obtain ⟨xs, n, _, rfl, hl, hlen, hf⟩ := DataW.trod_struct Tryz.underlying62 h
  have hl2 : cs.length = 3 := hl.trans (by kernel_rfl)
  have hx : xs.length = 2 := hlen
  obtain ⟨c0, c1, c2, rfl⟩ : ∃ c0 c1 c2, cs = [c0, c1, c2] := by
    match cs, hl2 with
    | [c0, c1, c2], _ => exact ⟨_, _, _, rfl⟩
  have co3 : Tryz.prog.cellsOf 3 = 1 := by kernel_rfl
  have co42 : Tryz.prog.cellsOf 42 = 2 := by kernel_rfl
  have e0 : DataW.trod enc Tryz.prog w base sp held n 3 (([c0, c1, c2].drop 0).take (Tryz.prog.cellsOf 3)) = xs[0]? := hf 0 _ rfl
  rw [co3] at e0
  obtain ⟨_, x0, r0, w0⟩ := (Opens.int (by kernel_rfl)) _ _ _ _ _ _ _ (e0.trans (List.getElem?_eq_getElem (by omega)))
  have e1 : DataW.trod enc Tryz.prog w base sp held n 42 (([c0, c1, c2].drop 1).take (Tryz.prog.cellsOf 42)) = xs[1]? := hf 1 _ rfl
  rw [co42] at e1
  obtain ⟨_, x1, r1, w1⟩ := o_Span _ _ _ _ _ _ _ (e1.trans (List.getElem?_eq_getElem (by omega)))
  have q0 : [c0] = [_] := r0
  cases q0
  have q1 : [c1, c2] = _ := r1
  cases q1
  exact ⟨rfl, ⟨x0, x1⟩, rfl, w0, w1⟩
def W_Meter (x : Meter) : Prop := I64 x.Limit ∧ I64 x.Count
set_option maxRecDepth 100000 in
theorem o_Meter {T : Type} {enc : TypeId × Value → T} : Opens enc Tryz.prog 73 2 R_Meter W_Meter := by
  intro w base sp held fuel cs y h
  obtain ⟨xs, n, _, rfl, hl, hlen, hf⟩ := DataW.trod_struct Tryz.underlying73 h
  have hl2 : cs.length = 2 := hl.trans (by kernel_rfl)
  have hx : xs.length = 2 := hlen
  obtain ⟨c0, c1, rfl⟩ : ∃ c0 c1, cs = [c0, c1] := by
    match cs, hl2 with
    | [c0, c1], _ => exact ⟨_, _, rfl⟩
  have co3 : Tryz.prog.cellsOf 3 = 1 := by kernel_rfl
  have e0 : DataW.trod enc Tryz.prog w base sp held n 3 (([c0, c1].drop 0).take (Tryz.prog.cellsOf 3)) = xs[0]? := hf 0 _ rfl
  rw [co3] at e0
  obtain ⟨_, x0, r0, w0⟩ := (Opens.int (by kernel_rfl)) _ _ _ _ _ _ _ (e0.trans (List.getElem?_eq_getElem (by omega)))
  have e1 : DataW.trod enc Tryz.prog w base sp held n 3 (([c0, c1].drop 1).take (Tryz.prog.cellsOf 3)) = xs[1]? := hf 1 _ rfl
  rw [co3] at e1
  obtain ⟨_, x1, r1, w1⟩ := (Opens.int (by kernel_rfl)) _ _ _ _ _ _ _ (e1.trans (List.getElem?_eq_getElem (by omega)))
  have q0 : [c0] = [_] := r0
  cases q0
  have q1 : [c1] = [_] := r1
  cases q1
  exact ⟨rfl, ⟨x0, x1⟩, rfl, w0, w1⟩
def W_Run (x : Run) : Prop := W_Canopy x.Canopy ∧ (fun (l : List Blow) => (∀ x ∈ l, W_Blow x) ∧ l.length ≤ 9223372036854775807) x.Blows ∧ (fun (l : List Meter) => (∀ x ∈ l, W_Meter x) ∧ l.length ≤ 9223372036854775807) x.Meters ∧ I64 x.Wrong
set_option maxRecDepth 100000 in
theorem o_Run {T : Type} {enc : TypeId × Value → T} : Opens enc Tryz.prog 34 12 R_Run W_Run := by
  intro w base sp held fuel cs y h
  obtain ⟨xs, n, _, rfl, hl, hlen, hf⟩ := DataW.trod_struct Tryz.underlying34 h
  have hl2 : cs.length = 12 := hl.trans (by kernel_rfl)
  have hx : xs.length = 4 := hlen
  obtain ⟨c0, c1, c2, c3, c4, c5, c6, c7, c8, c9, c10, c11, rfl⟩ : ∃ c0 c1 c2 c3 c4 c5 c6 c7 c8 c9 c10 c11, cs = [c0, c1, c2, c3, c4, c5, c6, c7, c8, c9, c10, c11] := by
    match cs, hl2 with
    | [c0, c1, c2, c3, c4, c5, c6, c7, c8, c9, c10, c11], _ => exact ⟨_, _, _, _, _, _, _, _, _, _, _, _, rfl⟩
  have co3 : Tryz.prog.cellsOf 3 = 1 := by kernel_rfl
  have co30 : Tryz.prog.cellsOf 30 = 9 := by kernel_rfl
  have co31 : Tryz.prog.cellsOf 31 = 1 := by kernel_rfl
  have co32 : Tryz.prog.cellsOf 32 = 1 := by kernel_rfl
  have e0 : DataW.trod enc Tryz.prog w base sp held n 30 (([c0, c1, c2, c3, c4, c5, c6, c7, c8, c9, c10, c11].drop 0).take (Tryz.prog.cellsOf 30)) = xs[0]? := hf 0 _ rfl
  rw [co30] at e0
  obtain ⟨_, x0, r0, w0⟩ := o_Canopy _ _ _ _ _ _ _ (e0.trans (List.getElem?_eq_getElem (by omega)))
  have e1 : DataW.trod enc Tryz.prog w base sp held n 31 (([c0, c1, c2, c3, c4, c5, c6, c7, c8, c9, c10, c11].drop 9).take (Tryz.prog.cellsOf 31)) = xs[1]? := hf 1 _ rfl
  rw [co31] at e1
  obtain ⟨_, x1, r1, w1⟩ := (Opens.slice (e := 62) (sz := 3) (by kernel_rfl) (by kernel_rfl) rfl o_Blow) _ _ _ _ _ _ _ (e1.trans (List.getElem?_eq_getElem (by omega)))
  have e2 : DataW.trod enc Tryz.prog w base sp held n 32 (([c0, c1, c2, c3, c4, c5, c6, c7, c8, c9, c10, c11].drop 10).take (Tryz.prog.cellsOf 32)) = xs[2]? := hf 2 _ rfl
  rw [co32] at e2
  obtain ⟨_, x2, r2, w2⟩ := (Opens.slice (e := 73) (sz := 2) (by kernel_rfl) (by kernel_rfl) rfl o_Meter) _ _ _ _ _ _ _ (e2.trans (List.getElem?_eq_getElem (by omega)))
  have e3 : DataW.trod enc Tryz.prog w base sp held n 3 (([c0, c1, c2, c3, c4, c5, c6, c7, c8, c9, c10, c11].drop 11).take (Tryz.prog.cellsOf 3)) = xs[3]? := hf 3 _ rfl
  rw [co3] at e3
  obtain ⟨_, x3, r3, w3⟩ := (Opens.int (by kernel_rfl)) _ _ _ _ _ _ _ (e3.trans (List.getElem?_eq_getElem (by omega)))
  obtain ⟨v0_0, v0_7, v0_8, q0, s0_0, s0_7, s0_8⟩ := r0
  cases q0
  obtain ⟨v1, q1, s1⟩ := r1
  have q1 : [c9] = [v1] := q1
  cases q1
  obtain ⟨v2, q2, s2⟩ := r2
  have q2 : [c10] = [v2] := q2
  cases q2
  have q3 : [c11] = [_] := r3
  cases q3
  exact ⟨rfl, ⟨x0, x1, x2, x3⟩, ⟨c0, c7, c8, c9, c10, rfl, s0_0, s0_7, s0_8, s1, s2⟩, w0, w1, w2, w3⟩
def W_law13_Ask (x : law13_Ask) : Prop := I64 x.Blow ∧ I64 x.Meter ∧ I64 x.Limit
set_option maxRecDepth 100000 in
theorem o_law13_Ask {T : Type} {enc : TypeId × Value → T} : Opens enc Tryz.prog 54 3 R_law13_Ask W_law13_Ask := by
  intro w base sp held fuel cs y h
  obtain ⟨xs, n, _, rfl, hl, hlen, hf⟩ := DataW.trod_struct Tryz.underlying54 h
  have hl2 : cs.length = 3 := hl.trans (by kernel_rfl)
  have hx : xs.length = 3 := hlen
  obtain ⟨c0, c1, c2, rfl⟩ : ∃ c0 c1 c2, cs = [c0, c1, c2] := by
    match cs, hl2 with
    | [c0, c1, c2], _ => exact ⟨_, _, _, rfl⟩
  have co3 : Tryz.prog.cellsOf 3 = 1 := by kernel_rfl
  have e0 : DataW.trod enc Tryz.prog w base sp held n 3 (([c0, c1, c2].drop 0).take (Tryz.prog.cellsOf 3)) = xs[0]? := hf 0 _ rfl
  rw [co3] at e0
  obtain ⟨_, x0, r0, w0⟩ := (Opens.int (by kernel_rfl)) _ _ _ _ _ _ _ (e0.trans (List.getElem?_eq_getElem (by omega)))
  have e1 : DataW.trod enc Tryz.prog w base sp held n 3 (([c0, c1, c2].drop 1).take (Tryz.prog.cellsOf 3)) = xs[1]? := hf 1 _ rfl
  rw [co3] at e1
  obtain ⟨_, x1, r1, w1⟩ := (Opens.int (by kernel_rfl)) _ _ _ _ _ _ _ (e1.trans (List.getElem?_eq_getElem (by omega)))
  have e2 : DataW.trod enc Tryz.prog w base sp held n 3 (([c0, c1, c2].drop 2).take (Tryz.prog.cellsOf 3)) = xs[2]? := hf 2 _ rfl
  rw [co3] at e2
  obtain ⟨_, x2, r2, w2⟩ := (Opens.int (by kernel_rfl)) _ _ _ _ _ _ _ (e2.trans (List.getElem?_eq_getElem (by omega)))
  have q0 : [c0] = [_] := r0
  cases q0
  have q1 : [c1] = [_] := r1
  cases q1
  have q2 : [c2] = [_] := r2
  cases q2
  exact ⟨rfl, ⟨x0, x1, x2⟩, rfl, w0, w1, w2⟩
end Go.Proofs.YtcipdblhopffbaaGreat
end
section
namespace Go.Proofs.YtcipdblhopffbaaGreat
open Go Go.RowKit Go.Dec
theorem p_sameR {n : Nat} (hn : 100000000 ≤ n) {r : Run} (hs : SmallR r) (hsh : r.Canopy.Shares.length ≤ 1000) : F_law13_same n r r = some true := by
  have hs2 := hs.2
  have l1 := loop_all_l (step := F_law13_same_s1 n r r) r.Blows (fun _ => true) false (n := n) (by omega) (fun i x hx hi => by
    simp only [F_law13_same_s1, lt_nat, hi, decide_true, if_true, geti_nat, hx, Option.bind_some, beq_self_eq_true, Bool.and_self, Bool.not_true, Bool.false_eq_true, if_false, w64_nat (show i ≤ 4611686018427387904 by omega)]
    rfl) (by simp [F_law13_same_s1]) (by omega)
  have l2 := loop_all_l (step := F_law13_same_s2 n r r) r.Meters (fun _ => true) false (n := n) (by omega) (fun i x hx hi => by
    simp only [F_law13_same_s2, lt_nat, hi, decide_true, if_true, geti_nat, hx, Option.bind_some, beq_self_eq_true, Bool.and_self, Bool.not_true, Bool.false_eq_true, if_false, w64_nat (show i ≤ 4611686018427387904 by omega)]
    rfl) (by simp [F_law13_same_s2]) (by omega)
  have e1 : (r.Blows.all fun _ => true) = true := by simp
  have e2 : (r.Meters.all fun _ => true) = true := by simp
  rw [e1] at l1
  rw [e2] at l2
  simp only [F_law13_same, p_sameI hn hsh, bne_self_eq_false, Bool.or_self, Bool.false_eq_true, if_false, Option.bind_some, decide_true, Bool.not_true, l1, l2, cond_true]
theorem law_CountsForces (r : Run) (x : law13_Ask) (_ : W_Run r) (_ : W_law13_Ask x) : ∃ n, F_law13_CountsForces n r x = some true := by
  have hn2 : 200000000 ≤ 200000000 := Nat.le_refl _
  have hn : 100000000 ≤ 200000000 := by omega
  refine ⟨200000000, ?_⟩
  have hw := works13 hn
  simp only [F_law13_CountsForces]
  rcases p_Far13 hn r with h | ⟨h, hs, hb, hm⟩
  · simp [h, hw]
  · have f3 : (forcesT r x.Blow).1.length ≤ 1000 := by
      unfold forcesT
      split
      · rename_i e
        obtain ⟨hr, his, _⟩ := errR_ok e
        have hwi := wi_t.1 his
        have := forces_len hr (i := x.Blow) (by omega) (by omega)
        simp only; omega
      · simp
    have hsh : r.Canopy.Shares.length ≤ 1000 := hs.1.2.2
    simp only [h, Bool.false_eq_true, if_false, p_Copy13 hn hs, p_CheckC hn hs, p_Check13 hn hs, bne_self_eq_false, p_Fewest hn hs, p_FewestR hn2 hs, p_Forces hn hs, p_ForcesR hn2 hs, p_Right hn hs, p_RightR hn2 hs, p_Reads hn hs, p_ReadsR hn2 hs, p_Many hn hs, p_ManyR hn2 hs, Option.bind_some, p_sameI hn f3, beq_self_eq_true, Bool.and_self, decide_true, if_true, p_sameR hn hs hsh, hw]
end Go.Proofs.YtcipdblhopffbaaGreat
end
section
namespace Go.Proofs.YtcipdblhopffbaaGreat
open Go Go.RowKit Go.Dec Go.ChangeShapes Go.WideShapes Go.ChangeAt
set_option linter.unusedVariables false
theorem cl_laidOut : laidOutB Tryz.prog = true := by kernel_rfl
theorem cl_own : ownKnob Tryz.prog.godebug = none := by kernel_rfl
set_option maxRecDepth 100000 in
set_option maxHeartbeats 1000000 in
theorem countsForces_contract (law : ∀ (x0 : Run) (x1 : law13_Ask), W_Run x0 → W_law13_Ask x1 → ∃ n, F_law13_CountsForces n x0 x1 = some true)
    (T : Type) (enc : TypeId × Value → T) (W : World) (base : Nat) (args : Array Value) (ds gs : List (DataW T)) (before : List MemPlace)
    (hval : ∀ (j : Nat) t v, Tryz.f5.params[j]? = some t → args[j]? = some v → Value.okWide Tryz.prog W .any base t v)
    (hW : DataW.Whole enc Tryz.prog Tryz.f5.params.toList Rows.countsForcesSpec.vars false W args.toList ds gs before) :
    Calls Tryz.prog 5 args W fun e W' => ∃ v, e = .returned v ∧ Rows.countsForcesSpec.post enc Tryz.prog Tryz.f5 false true false false W args v W' := by
  have hW' := hW
  obtain ⟨p, q, hA0, hV, rfl, hfz, hnd⟩ := hW
  have hA : DataW.TrodAll enc Tryz.prog W 0 (fun _ => true) true Tryz.f5.params.toList args.toList ds p := hA0
  rw [Tryz.params5] at hA hval
  obtain ⟨v0, vs0, d0, ds0, p0, q0, hargs, rfl, rfl, h0, r0⟩ := trodAll_cons hA
  obtain ⟨v1, vs1, d1, ds1, p1, q1, rfl, rfl, rfl, h1, r1⟩ := trodAll_cons r0
  obtain ⟨rfl, rfl, rfl⟩ := trodAll_nil r1
  obtain rfl : args = #[v0, v1] := by rw [← Array.toArray_toList (xs := args), hargs]
  obtain ⟨rfl, rfl⟩ := trodVars_none hV
  obtain ⟨cs0, rfl, hs0⟩ := okWide_struct Tryz.underlying34 (hval 0 34 v0 rfl rfl)
  obtain ⟨cs1, rfl, hs1⟩ := okWide_struct Tryz.underlying54 (hval 1 54 v1 rfl rfl)
  have k0 := h0
  obtain ⟨f0, e0⟩ := h0
  have k1 := h1
  obtain ⟨f1, e1⟩ := h1
  obtain ⟨_, x0, r0, w0⟩ := o_Run _ _ _ _ _ _ _ e0
  obtain ⟨_, x1, r1, w1⟩ := o_law13_Ask _ _ _ _ _ _ _ e1
  obtain ⟨n, hn⟩ := law x0 x1 w0 w1
  obtain ⟨u0_0, u0_1, u0_2, u0_3, u0_4, q0, s0_0, s0_1, s0_2, s0_3, s0_4⟩ := r0
  have q0 : cs0.toList = _ := q0
  obtain rfl : cs0 = _ := by rw [← Array.toArray_toList (xs := cs0), q0]
  have q1 : cs1.toList = _ := r1
  obtain rfl : cs1 = _ := by rw [← Array.toArray_toList (xs := cs1), q1]
  have hlt : ∀ x ∈ p0 ++ (p1 ++ []), x.block < W.heap.size := fun x hx => hW'.lt x (by simpa using hx)
  refine ((c_law13_CountsForces n (hw W) x0 u0_0 s0_0 u0_1 s0_1 u0_2 s0_2 u0_3 s0_3 u0_4 s0_4 x1 true hn) W (hw_le W)).mono fun e W' ⟨he, hb0⟩ => ?_
  have hb := hb0.plain rfl
  subst he
  refine ⟨_, rfl, _, _, _, [], p0 ++ (p1 ++ []), [], hW', trodAll_cons_mk (shut_bool Tryz.underlying4 _) trodAll_mk0, ?_, rfl, hb.frame _, fun h => by cases h⟩
  exact trodAll_cons_mk (Below.trod cl_laidOut (by kernel_rfl) (of_decide_eq_true (by kernel_rfl)) k0 hb (fun x hx => hlt x (List.mem_append_left _ hx))) (trodAll_cons_mk (Below.trod cl_laidOut (by kernel_rfl) (of_decide_eq_true (by kernel_rfl)) k1 hb (fun x hx => hlt x (List.mem_append_right _ (List.mem_append_left _ hx)))) trodAll_mk0)
set_option maxRecDepth 100000 in
theorem countsForces_lifted (law : ∀ (x0 : Run) (x1 : law13_Ask), W_Run x0 → W_law13_Ask x1 → ∃ n, F_law13_CountsForces n x0 x1 = some true)
    (os : Os) (started : os.Started) (H : Type) (enc : TypeId × Value → H) :
    ReturnsInHanded {} Tryz.checked os 5 .any (Rows.countsForcesSpec.pre6 enc Tryz.prog Tryz.f5 Rows.countsForcesRow.domain false) (Rows.countsForcesSpec.post enc Tryz.prog Tryz.f5 false true false false) := by
  refine returnsInHanded_of_change (C := Tryz.checked) cl_own started (by kernel_rfl) Tryz.func5
    (ChangeSpec.witness6 (enc := enc) (C := Tryz.checked) false ⟨#[], #[.agg #[.slice none 0 0, .int .i64 0, .int .i64 0, .int .i64 0, .int .i64 0, .int .i64 0, .int .i64 0, .slice none 0 0, .slice none 0 0, .slice none 0 0, .slice none 0 0, .int .i64 0], .agg #[.int .i64 0, .int .i64 0, .int .i64 0]], []⟩ 8 (by kernel_rfl) (by kernel_rfl) (by kernel_rfl) (by kernel_rfl)) ?_
  intro W base args ds gs before hval hW _ _
  exact countsForces_contract law H enc W base args ds gs before hval hW
theorem countsForces_holds (law : ∀ (x0 : Run) (x1 : law13_Ask), W_Run x0 → W_law13_Ask x1 → ∃ n, F_law13_CountsForces n x0 x1 = some true) : Rows.CountsForcesSaid :=
  OpenClaim.holds_of_wide 5 Tryz.f5 rfl rfl rfl rfl rfl rfl rfl ⟨rfl, rfl, rfl, rfl, rfl⟩ rfl rfl rfl rfl rfl (by kernel_rfl) Tryz.func5 (by kernel_rfl)
    (of_decide_eq_true (by kernel_rfl)) (by unfold Func.isWrapper; first | (rw [if_pos (by decide +kernel)]; kernel_rfl) | (rw [if_neg (by decide +kernel)]; exact ⟨rfl, rfl⟩))
    (fun os started H enc _ => countsForces_lifted law os started H enc)
theorem countsForces_proved : Rows.CountsForcesSaid := countsForces_holds law_CountsForces
end Go.Proofs.YtcipdblhopffbaaGreat
end
