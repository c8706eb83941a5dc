/-
  CountsMore holds of every input that can be given, without a condition.
-/
import Derived.Test.YtcipdblhopffbaaJCMore12
import Derived.OpenShut
import Derived.JoinedCond
import Derived.ProofKit
import Derived.WalkKit
section
namespace Go.Proofs.Ytcipdblhopffbaa
open Go Go.RowKit Go.Dec
set_option linter.unusedVariables false

theorem mem_cases : ∀ {bl : List Blow} {c : List Int}, c ∈ casesS bl ↔ c.length = bl.length ∧ ∀ (i : Nat) (b : Blow) (x : Int), bl[i]? = some b → c[i]? = some x → b.Force.Low ≤ x ∧ x ≤ b.Force.High
  | [], c => by
    constructor
    · intro h; simp [casesS] at h; subst h; simp
    · rintro ⟨h, _⟩
      have : c = [] := List.eq_nil_of_length_eq_zero h
      subst this; simp [casesS]
  | b :: bl, c => by
    simp only [casesS, List.mem_flatMap, List.mem_map]
    constructor
    · rintro ⟨f, hf, c', hc, rfl⟩
      obtain ⟨h1, h2⟩ := mem_cases.1 hc
      refine ⟨by simp [h1], fun i b' x hb hx => ?_⟩
      cases i with
      | zero =>
        simp only [List.getElem?_cons_zero, Option.some.injEq] at hb hx
        subst hb; subst hx
        exact span_mem'.1 hf
      | succ i =>
        simp only [List.getElem?_cons_succ] at hb hx
        exact h2 i b' x hb hx
    · rintro ⟨h1, h2⟩
      cases c with
      | nil => simp at h1
      | cons f c =>
        refine ⟨f, span_mem'.2 (h2 0 b f rfl rfl), c, mem_cases.2 ⟨by simpa using h1, fun i b' x hb hx => h2 (i + 1) b' x (by simpa using hb) (by simpa using hx)⟩, rfl⟩
theorem blowAt_of {r : Run} {i : Int} {b : Blow} (h : r.Blows[i.toNat]? = some b) : blowAt r i = b := by unfold blowAt; rw [h]; rfl
theorem fixed_ok {r : Run} (hr : ROk r) {i : Int} (h0 : 0 ≤ i) (h1 : i < r.Blows.length) {f : Int} (hf1 : (blowAt r i).Force.Low ≤ f) (hf2 : f ≤ (blowAt r i).Force.High) : ROk (fixedS r i f) := by
  have hi : i.toNat < r.Blows.length := by omega
  have e : r.Blows[i.toNat]? = some r.Blows[i.toNat] := List.getElem?_eq_getElem hi
  have hb := hr.b _ (List.getElem_mem hi)
  rw [blowAt_of e] at hf1 hf2
  refine ⟨hr.d, by simpa [fixedS, setx] using hr.nb, hr.nm, fun b h => ?_, hr.m, hr.w⟩
  simp only [fixedS, setx] at h
  rcases List.mem_or_eq_of_mem_set h with h | rfl
  · exact hr.b b h
  · have := hb.lo; have := hb.hi
    exact ⟨by simp only [blowAt_of e]; exact hb.at_, by simp only; omega, by simp only; omega, by simp only; omega, by simp only; omega⟩
theorem fixed_cases {r : Run} {i : Int} (h0 : 0 ≤ i) (h1 : i < r.Blows.length) {f : Int} (hf1 : (blowAt r i).Force.Low ≤ f) (hf2 : f ≤ (blowAt r i).Force.High) {c : List Int} : c ∈ casesS (fixedS r i f).Blows ↔ c ∈ casesS r.Blows ∧ c[i.toNat]? = some f := by
  have hi : i.toNat < r.Blows.length := by omega
  have e : r.Blows[i.toNat]? = some r.Blows[i.toNat] := List.getElem?_eq_getElem hi
  rw [mem_cases, mem_cases]
  simp only [fixedS, setx, List.length_set]
  rw [blowAt_of e] at hf1 hf2 ⊢
  constructor
  · rintro ⟨hl, h⟩
    have hf : c[i.toNat]? = some f := by
      have hc : c[i.toNat]? = some (c[i.toNat]'(by omega)) := List.getElem?_eq_getElem (by omega)
      have := h i.toNat ⟨r.Blows[i.toNat].At, ⟨f, f⟩⟩ _ (by rw [List.getElem?_set, if_pos rfl, if_pos hi]) hc
      simp only at this
      rw [hc]; congr 1; omega
    refine ⟨⟨hl, fun j b x hb hx => ?_⟩, hf⟩
    by_cases hj : i.toNat = j
    · subst hj
      rw [e] at hb; cases hb
      rw [hf] at hx; cases hx
      exact ⟨hf1, hf2⟩
    · exact h j b x (by rw [List.getElem?_set_ne hj]; exact hb) hx
  · rintro ⟨⟨hl, h⟩, hf⟩
    refine ⟨hl, fun j b x hb hx => ?_⟩
    by_cases hj : i.toNat = j
    · subst hj
      rw [List.getElem?_set, if_pos rfl, if_pos hi] at hb
      cases hb
      rw [hf] at hx; cases hx
      exact ⟨Int.le_refl _, Int.le_refl _⟩
    · rw [List.getElem?_set_ne hj] at hb
      exact h j b x hb hx
theorem fixed_truths {r : Run} {i : Int} (h0 : 0 ≤ i) (h1 : i < r.Blows.length) {f : Int} (hf1 : (blowAt r i).Force.Low ≤ f) (hf2 : f ≤ (blowAt r i).Force.High) {c : List Int} : c ∈ truthsC (fixedS r i f) ↔ c ∈ truthsC r ∧ c[i.toNat]? = some f := by
  unfold truthsC
  rw [List.mem_filter, List.mem_filter, fixed_cases h0 h1 hf1 hf2]
  constructor
  · rintro ⟨⟨a, b⟩, c⟩; exact ⟨⟨a, c⟩, b⟩
  · rintro ⟨⟨a, c⟩, b⟩; exact ⟨⟨a, b⟩, c⟩
theorem fixed_err {r : Run} (hr : ROk r) {i : Int} (h0 : 0 ≤ i) (h1 : i < r.Blows.length) {f : Int} (hf1 : (blowAt r i).Force.Low ≤ f) (hf2 : f ≤ (blowAt r i).Force.High) : errR (fixedS r i f) true = 0 ↔ ∃ c ∈ truthsC r, c[i.toNat]? = some f := by
  rw [errR_true (fixed_ok hr h0 h1 hf1 hf2)]
  constructor
  · intro h
    split at h
    · cases h
    · rename_i hne
      obtain ⟨c, hc⟩ := List.exists_mem_of_ne_nil _ hne
      exact ⟨c, (fixed_truths h0 h1 hf1 hf2).1 hc⟩
  · rintro ⟨c, hc⟩
    rw [if_neg (fun e => by have := (fixed_truths h0 h1 hf1 hf2).2 hc; rw [e] at this; cases this)]
theorem truth_case {r : Run} {c : List Int} (h : c ∈ truthsC r) : c ∈ casesS r.Blows := (List.mem_filter.1 h).1
/-- the forces that a blow can have -/
theorem forces_mem {r : Run} (hr : ROk r) {i : Int} (h0 : 0 ≤ i) (h1 : i < r.Blows.length) {f : Int} : f ∈ forcesL r i ↔ ∃ c ∈ truthsC r, c[i.toNat]? = some f := by
  unfold forcesL
  rw [List.mem_filter, span_mem']
  constructor
  · rintro ⟨⟨a, b⟩, h⟩
    exact (fixed_err hr h0 h1 a b).1 (by simpa using h)
  · rintro ⟨c, hc, hf⟩
    have hi : i.toNat < r.Blows.length := by omega
    have e : r.Blows[i.toNat]? = some r.Blows[i.toNat] := List.getElem?_eq_getElem hi
    have := (mem_cases.1 (truth_case hc)).2 i.toNat _ f e hf
    rw [blowAt_of e]
    refine ⟨this, ?_⟩
    have h2 := (fixed_err hr h0 h1 (f := f) (by rw [blowAt_of e]; exact this.1) (by rw [blowAt_of e]; exact this.2)).2 ⟨c, hc, hf⟩
    simpa using h2
theorem span_sorted (a b : Int) : (span a b).Pairwise (· < ·) := by
  unfold span
  rw [List.pairwise_map]
  have : (List.range (b + 1 - a).toNat).Pairwise (· < ·) := List.pairwise_lt_range
  exact this.imp fun h => by omega
theorem forces_sorted (r : Run) (i : Int) : (forcesL r i).Pairwise (· < ·) := (span_sorted _ _).filter _
theorem forces_len {r : Run} (hr : ROk r) {i : Int} (h0 : 0 ≤ i) (h1 : i < r.Blows.length) : (forcesL r i).length ≤ 10 := by
  have hi : i.toNat < r.Blows.length := by omega
  have e : r.Blows[i.toNat]? = some r.Blows[i.toNat] := List.getElem?_eq_getElem hi
  have := (hr.b _ (List.getElem_mem hi)).gap
  refine Nat.le_trans (List.length_filter_le _ _) ?_
  rw [span_len, blowAt_of e]; omega
theorem len_le_total {L : List (List Int)} {T : Mp} (h : RM L T) : T.length ≤ L.length := by
  have h1 := h.total
  have : ∀ T : Mp, (∀ p ∈ T, 0 < p.2) → (T.length : Int) ≤ (T.map (·.2)).sum := by
    intro T
    induction T with
    | nil => intro _; simp
    | cons p T ih =>
      intro h
      have := h p (List.mem_cons_self ..)
      have := ih fun q hq => h q (List.mem_cons_of_mem _ hq)
      simp only [List.map_cons, List.sum_cons, List.length_cons]; omega
  have := this T h.pos
  omega
theorem rightX_read {r : Run} (hm : r.Meters.length ≤ 5) {a : Blow → Int → Bool} {c : List Int} (hc : c ∈ casesS r.Blows) {i : Int} (h0 : 0 ≤ i) (h1 : i < r.Meters.length) : ((readS r.Meters a r.Blows c zeroX).getD i.toNat 0 == (meterAt r i).Count) = rightC (meterAt r i) c := by
  have hi : i.toNat < r.Meters.length := by omega
  have e : r.Meters[i.toNat]? = some r.Meters[i.toNat] := List.getElem?_eq_getElem hi
  unfold meterAt rightC
  rw [e, readS_at hm hc e]; rfl

section
variable {n : Nat} (hn : 100000000 ≤ n)
include hn
omit hn in
theorem right_count {m : Int} {w : counts_test} (q : List Int → Bool) (T : Mp) (hq : ∀ p ∈ T, F_counts_test_right n w p.1 m = some (q p.1)) : ∀ (l : Mp) (s : Int), (∀ p ∈ l, p ∈ T) → 0 ≤ s → s + l.length ≤ 1000000000 → foldP (F_counts_Right_s1 n m w) s l = some (s + (l.countP fun p => q p.1 : Nat))
  | [], s, _, _, _ => by simp [foldP]
  | p :: l, s, h, h0, hb => by
    have hp := hq p (h p (List.mem_cons_self ..))
    simp only [List.length_cons] at hb
    obtain ⟨x, v⟩ := p
    simp only at hp
    rw [foldP, F_counts_Right_s1, hp]
    simp only [Option.bind_some, List.countP_cons]
    cases q x with
    | true =>
      simp only [if_true, Option.bind_some]
      rw [w64_id (by omega) (by omega), right_count q T hq l (s + 1) (fun z hz => h z (List.mem_cons_of_mem _ hz)) (by omega) (by omega)]
      congr 1; omega
    | false =>
      simp only [Bool.false_eq_true, if_false, Option.bind_some]
      rw [right_count q T hq l s (fun z hz => h z (List.mem_cons_of_mem _ hz)) (by omega) (by omega)]
      congr 1
theorem p_Right {r : Run} (hs : SmallR r) (i : Int) : F_counts_Right n r i = some (rightT r i) := by
  simp only [F_counts_Right, p_cwithin, Option.bind_some]
  rw [w64_id (by have := hs.2.2; omega) (by have := hs.2.2; omega)]
  simp only [p_openN hn hs, Option.bind_some, rightT]
  by_cases h : errR r (wi i 0 ((r.Meters.length : Int) - 1)) = 0
  · rw [if_pos h, if_pos h]
    obtain ⟨hr, hw, hne⟩ := errR_ok h
    have hi := wi_t.1 hw
    have hT := tally_ok (trs r fun _ _ => false)
    have hx : ∀ p ∈ tally (trs r fun _ _ => false), ∃ c ∈ truthsC r, p.1 = readS r.Meters (fun _ _ => false) r.Blows c zeroX := fun p hp => by
      have h1 := hT.key.1 ⟨p.2, hp⟩
      rw [trs_eq hr.nm] at h1
      obtain ⟨c, hc, e⟩ := List.mem_map.1 h1
      exact ⟨c, hc, e.symm⟩
    have h6 : ∀ p ∈ tally (trs r fun _ _ => false), p.1.length = 6 := fun p hp => (xok_of hr.nb p.1 (List.mem_filter.1 (hT.key.1 ⟨p.2, hp⟩)).1).1
    have hq : ∀ p ∈ tally (trs r fun _ _ => false), F_counts_test_right n ⟨r, fun a0_ a1_ => F_counts_none n a0_ a1_⟩ p.1 i = some (p.1.getD i.toNat 0 == (meterAt r i).Count) := fun p hp => by
      have := p_right hn (asked := fun a0_ a1_ => F_counts_none n a0_ a1_) (h6 p hp) hr.nm (i := i.toNat) (by omega)
      rw [show ((i.toNat : Nat) : Int) = i by omega] at this
      exact this
    have hlen : (tally (trs r fun _ _ => false)).length ≤ 100000000 := by
      have h1 := len_le_total hT
      have h2 : (trs r fun _ _ => false).length = (truthsC r).length := by rw [trs_eq hr.nm]; simp
      have := truths_len hr
      omega
    have hP : permO (F_counts_Right_s1 n i ⟨r, fun a0_ a1_ => F_counts_none n a0_ a1_⟩) 0 (tally (trs r fun _ _ => false)) = some (((tally (trs r fun _ _ => false)).countP fun p => p.1.getD i.toNat 0 == (meterAt r i).Count : Nat) : Int) := permO_of fun l hl => by
      rw [right_count (fun x => x.getD i.toNat 0 == (meterAt r i).Count) _ hq l 0 (fun p hp => hl.mem_iff.1 hp) (Int.le_refl _) (by rw [hl.length_eq]; omega), hl.countP_eq, Int.zero_add]
    simp only [bne_self_eq_false, Bool.false_eq_true, if_false, trs_ne h, Option.bind_some, hP]
    have all_iff : ((tally (trs r fun _ _ => false)).countP fun p => p.1.getD i.toNat 0 == (meterAt r i).Count) = (tally (trs r fun _ _ => false)).length ↔ ((truthsC r).all (rightC (meterAt r i))) = true := by
      rw [List.countP_eq_length, List.all_eq_true]
      constructor
      · intro h c hc
        obtain ⟨v, hv⟩ := hT.key.2 (show readS r.Meters (fun _ _ => false) r.Blows c zeroX ∈ _ by rw [trs_eq hr.nm]; exact List.mem_map.2 ⟨c, hc, rfl⟩)
        have := h _ hv
        rwa [rightX_read hr.nm (truth_case hc) hi.1 (by omega)] at this
      · intro h p hp
        obtain ⟨c, hc, e⟩ := hx p hp
        rw [e, rightX_read hr.nm (truth_case hc) hi.1 (by omega)]
        exact h c hc
    have none_iff : ((tally (trs r fun _ _ => false)).countP fun p => p.1.getD i.toNat 0 == (meterAt r i).Count) = 0 ↔ ((truthsC r).all fun c => !rightC (meterAt r i) c) = true := by
      rw [List.countP_eq_zero, List.all_eq_true]
      constructor
      · intro h c hc
        obtain ⟨v, hv⟩ := hT.key.2 (show readS r.Meters (fun _ _ => false) r.Blows c zeroX ∈ _ by rw [trs_eq hr.nm]; exact List.mem_map.2 ⟨c, hc, rfl⟩)
        have := h _ hv
        rw [rightX_read hr.nm (truth_case hc) hi.1 (by omega)] at this
        simpa using this
      · intro h p hp
        obtain ⟨c, hc, e⟩ := hx p hp
        rw [e, rightX_read hr.nm (truth_case hc) hi.1 (by omega)]
        simpa using h c hc
    generalize (List.countP (fun p : List Int × Int => p.1.getD i.toNat 0 == (meterAt r i).Count) (tally (trs r fun _ _ => false))) = K at all_iff none_iff ⊢
    generalize (tally (trs r fun _ _ => false)).length = Z at all_iff ⊢
    by_cases h1 : ((truthsC r).all (rightC (meterAt r i))) = true
    · rw [if_pos h1]
      have e : ((K : Int) == (Z : Int)) = true := by rw [all_iff.2 h1]; exact beq_self_eq_true _
      rw [e]; rfl
    · rw [if_neg h1]
      have e : ((K : Int) == (Z : Int)) = false := by
        rw [beq_eq_false_iff_ne]; intro e; exact h1 (all_iff.1 (by omega))
      rw [e]
      simp only [Bool.false_eq_true, if_false]
      by_cases h2 : ((truthsC r).all fun c => !rightC (meterAt r i) c) = true
      · rw [if_pos h2]
        have e : ((K : Int) == 0) = true := by rw [none_iff.2 h2]; rfl
        rw [e]; rfl
      · rw [if_neg h2]
        have e : ((K : Int) == 0) = false := by
          rw [beq_eq_false_iff_ne]; intro e; exact h2 (none_iff.1 (by omega))
        rw [e]; rfl
  · rw [if_neg h, if_neg h]
    have e : (errR r (wi i 0 ((r.Meters.length : Int) - 1)) != 0) = true := by simpa using h
    simp only [e, if_true]
theorem p_fixed {r : Run} (hs : SmallR r) {i : Int} (h0 : 0 ≤ i) (h1 : i < r.Blows.length) (f : Int) : F_counts_fixed n r i f = some (fixedS r i f) := by
  have _hn := hn
  have hi : i.toNat < r.Blows.length := by omega
  have e : r.Blows[i.toNat]? = some r.Blows[i.toNat] := List.getElem?_eq_getElem hi
  have hg : geti r.Blows i = some r.Blows[i.toNat] := by unfold geti; rw [if_pos h0, e]
  have hl : F_slices_Clone___api_Blow_api_Blow_ n r.Blows = some r.Blows := lim_ok (by have := hs.2.1; omega)
  simp only [F_counts_fixed, hl, Option.bind_some, hg, fixedS, blowAt_of e]
theorem p_Forces {r : Run} (hs : SmallR r) (i : Int) : F_counts_Forces n r i = some (forcesT r i) := by
  simp only [F_counts_Forces, p_cwithin, Option.bind_some]
  rw [w64_id (by have := hs.2.1; omega) (by have := hs.2.1; omega)]
  simp only [p_openN hn hs, Option.bind_some, forcesT]
  by_cases h : errR r (wi i 0 ((r.Blows.length : Int) - 1)) = 0
  · rw [if_pos h, if_pos h]
    obtain ⟨hr, hw, hne⟩ := errR_ok h
    have hi := wi_t.1 hw
    have h1 : i < r.Blows.length := by omega
    have hi' : i.toNat < r.Blows.length := by omega
    have e : r.Blows[i.toNat]? = some r.Blows[i.toNat] := List.getElem?_eq_getElem hi'
    have hg : geti r.Blows i = some (blowAt r i) := by unfold geti; rw [if_pos hi.1, e, blowAt_of e]
    have hb := hr.b _ (List.getElem_mem hi')
    rw [← blowAt_of e] at hb
    have hlo := hb.lo; have hhi := hb.hi; have hgap := hb.gap
    have hl := loop_span_fold (step := F_counts_Forces_s1 n r i) (fun f (out : List Int) => (f, out)) (fun out f => if (errR (fixedS r i f) true == 0) = true then out ++ [f] else out) (fun out => out) (fun f out => (out.length : Int) ≤ f - (blowAt r i).Force.Low) (hi := (blowAt r i).Force.High) _ (blowAt r i).Force.Low [] n rfl (by simp) (fun f out h2 h3 hI => by
      have hsF : SmallR (fixedS r i f) := ⟨hs.1, by simpa [fixedS, setx] using hs.2.1, hs.2.2⟩
      simp only [F_counts_Forces_s1, hg, Option.bind_some, h3, decide_true, if_true, p_fixed hn hs hi.1 h1, p_openN hn hsF]
      rw [w64_id (by omega) (by omega)]
      by_cases he : errR (fixedS r i f) true = 0
      · have hlim : lim (out ++ [f]) = some (out ++ [f]) := lim_ok (by simp; omega)
        simp only [he, if_true, beq_self_eq_true, hlim, Option.bind_some]
        refine ⟨by first | rfl | trivial, ?_⟩
        rw [List.length_append]; simp; omega
      · have e2 : (errR (fixedS r i f) true == 0) = false := by simpa using he
        simp only [he, if_false, e2, Bool.false_eq_true, Option.bind_some]
        exact ⟨by first | rfl | trivial, by omega⟩) (fun f out h2 h3 hI => by
      simp only [F_counts_Forces_s1, hg, Option.bind_some]
      rw [show decide (f ≤ (blowAt r i).Force.High) = false from decide_eq_false (by omega)]
      rfl) (by omega)
    simp only [bne_self_eq_false, Bool.false_eq_true, if_false, hg, Option.bind_some, hl.1, foldl_filter_append, List.nil_append]
    rfl
  · rw [if_neg h, if_neg h]
    have e : (errR r (wi i 0 ((r.Blows.length : Int) - 1)) != 0) = true := by simpa using h
    simp only [e, if_true]

/-! ### the small functions of the statements -/
omit hn in
theorem sameI_spec (a b : List Int) : (decide (a.length = b.length) && (List.range a.length).all fun i => a[i]? == b[i]?) = decide (a = b) := by
  rw [Bool.eq_iff_iff]
  simp only [Bool.and_eq_true, decide_eq_true_eq, List.all_eq_true, List.mem_range, beq_iff_eq]
  constructor
  · rintro ⟨h1, h2⟩
    apply List.ext_getElem?
    intro i
    by_cases hi : i < a.length
    · exact h2 i hi
    · rw [List.getElem?_eq_none (by omega), List.getElem?_eq_none (by omega)]
  · rintro rfl; exact ⟨rfl, fun _ _ => rfl⟩
theorem p_sameI {a b : List Int} (ha : a.length ≤ 1000) : F_law13_sameInts n a b = some (decide (a = b)) := by
  rw [← sameI_spec]
  unfold F_law13_sameInts
  by_cases h : a.length = b.length
  · have e : ((a.length : Int) != (b.length : Int)) = false := by simp [h]
    rw [e]
    simp only [Bool.false_eq_true, if_false]
    have kk := loop_all (step := F_law13_sameInts_s1 n a b) a.length (fun i => a[i]? == b[i]?) false (n := n) (by omega) (fun i hi => ?_) ?_ (by omega)
    · rw [kk]
      cases ((List.range a.length).all fun i => a[i]? == b[i]?) <;> simp [h]
    · have h1 : a[i]? = some a[i] := List.getElem?_eq_getElem hi
      have h2 : b[i]? = some (b[i]'(by omega)) := List.getElem?_eq_getElem (by omega)
      simp only [F_law13_sameInts_s1, lt_nat, hi, decide_true, if_true, geti_nat, h1, h2, Option.bind_some, w64_nat (show i ≤ 4611686018427387904 by omega)]
      by_cases hab : a[i] = b[i]'(by omega)
      · simp [hab]
      · have e1 : (a[i] != b[i]'(by omega)) = true := by simpa using hab
        have e2 : (a[i] == b[i]'(by omega)) = false := by simpa using hab
        simp [e1, hab, e2]
    · simp [F_law13_sameInts_s1]
  · have e : ((a.length : Int) != (b.length : Int)) = true := by simp; omega
    rw [e]; simp [h]
theorem p_hasI {l : List Int} (hl : l.length ≤ 1000) (x : Int) : F_law13_has n l x = some (l.contains x) := by
  unfold F_law13_has
  have kk := loop_all_l (step := F_law13_has_s1 n l x) l (fun y => !(y == x)) true (n := n) (by omega) (fun i y hy hi => by
    simp only [F_law13_has_s1, lt_nat, hi, decide_true, if_true, geti_nat, hy, Option.bind_some, w64_nat (show i ≤ 4611686018427387904 by omega)]
    cases (y == x) <;> rfl) (by simp [F_law13_has_s1]) (by omega)
  rw [kk]
  have : (l.all fun y => !(y == x)) = !l.contains x := by
    rw [Bool.eq_iff_iff, Bool.not_eq_true', ← Bool.not_eq_true]
    simp only [List.all_eq_true, List.contains_eq_mem, decide_eq_true_eq, Bool.not_eq_true', beq_eq_false_iff_ne, ne_eq]
    constructor
    · intro h hx; exact h x hx rfl
    · intro h y hy e; subst e; exact h hy
  rw [this]
  cases l.contains x <;> rfl
theorem p_Copy13 {r : Run} (hs : SmallR r) : F_ref13_Copy n r = some r := by
  simp only [F_ref13_Copy, p_Copy05 hn hs.1, Option.bind_some, List.nil_append]
  rw [lim_ok (by have := hs.2.1; omega), lim_ok (by have := hs.2.2; omega)]
  rfl
theorem p_Far13 (r : Run) : F_law13_Far n r = some true ∨ (F_law13_Far n r = some false ∧ SmallR r ∧ r.Blows.length ≤ 40 ∧ r.Meters.length ≤ 40) := by
  unfold F_law13_Far
  rcases p_Far hn r.Canopy with h | ⟨h, hs, h1, h2, h3⟩
  · left; rw [h]; rfl
  · rw [h]
    simp only [Option.bind_some, Bool.false_or]
    by_cases h4 : 40 < (r.Blows.length : Int)
    · left; simp [h4]
    · by_cases h5 : 40 < (r.Meters.length : Int)
      · left; simp [h5]
      · have hsr : SmallR r := ⟨hs, by omega, by omega⟩
        have e4 : decide (40 < (r.Blows.length : Int)) = false := decide_eq_false h4
        have e5 : decide (40 < (r.Meters.length : Int)) = false := decide_eq_false h5
        simp only [e4, e5, Bool.false_or, Bool.false_eq_true, if_false, p_Check13 hn hsr, Option.bind_some]
        by_cases h6 : checkR r = 0
        · have hr := checkR_ok.1 h6
          have e6 : (checkR r != 0) = false := by simp [h6]
          rw [e6]
          simp only [Bool.false_eq_true, if_false]
          have key : ∀ (k i : Nat) (m : Int) (fuel : Nat), i + k = r.Blows.length → 1 ≤ m → m ≤ 600 → k < fuel → ∃ v, loopO fuel (F_law13_Far_s1 n r) (m, (i : Int)) = some v ∧ (v = .inl true ∨ v = .inr ()) := by
            intro k
            induction k with
            | zero =>
              intro i m fuel hi _ _ hf
              refine ⟨.inr (), loop_done ?_ hf, .inr rfl⟩
              have : i = r.Blows.length := by omega
              subst this
              simp [F_law13_Far_s1]
            | succ k ih =>
              intro i m fuel hi h1 h2 hf
              obtain ⟨fuel, rfl⟩ : ∃ k, fuel = k + 1 := ⟨fuel - 1, by omega⟩
              have hlt : i < r.Blows.length := by omega
              have e : r.Blows[i]? = some r.Blows[i] := List.getElem?_eq_getElem hlt
              have hb := hr.b _ (List.getElem_mem hlt)
              have hg := hb.gap; have hle := hb.le; have := hb.lo; have := hb.hi
              have hm1 := mul_in (x := m) (y := r.Blows[i].Force.High - r.Blows[i].Force.Low + 1) (A := 600) (C := 10) (by omega) h2 (by omega) (by omega)
              have hm2 : 1 ≤ m * (r.Blows[i].Force.High - r.Blows[i].Force.Low + 1) := by
                have := Int.mul_le_mul h1 (show 1 ≤ r.Blows[i].Force.High - r.Blows[i].Force.Low + 1 by omega) (by omega) (by omega)
                omega
              rw [loopO_succ]
              simp only [F_law13_Far_s1, lt_nat, hlt, decide_true, if_true, geti_nat, e, Option.bind_some]
              rw [w64_id (n := r.Blows[i].Force.High - r.Blows[i].Force.Low) (by omega) (by omega), w64_id (n := r.Blows[i].Force.High - r.Blows[i].Force.Low + 1) (by omega) (by omega), w64_id (by omega) (by omega), w64_nat (show i ≤ 4611686018427387904 by have := hr.nb; omega)]
              by_cases hbig : 600 < m * (r.Blows[i].Force.High - r.Blows[i].Force.Low + 1)
              · rw [if_pos (by simpa using hbig)]
                exact ⟨_, rfl, .inl rfl⟩
              · rw [if_neg (by simpa using hbig)]
                exact ih (i + 1) _ fuel (by omega) hm2 (by omega) (by omega)
          obtain ⟨v, hv, hv2⟩ := key r.Blows.length 0 1 n (by omega) (by omega) (by omega) (by have := hr.nb; omega)
          simp only [Int.natCast_zero] at hv
          rw [hv]
          rcases hv2 with rfl | rfl
          · left; rfl
          · right; exact ⟨rfl, hsr, by omega, by omega⟩
        · right
          have e6 : (checkR r != 0) = true := by simpa using h6
          rw [e6]
          exact ⟨rfl, hsr, by omega, by omega⟩
/-- what 'ready' says -/
theorem p_ready (r : Run) : F_law13_ready n r = some false ∨ (F_law13_ready n r = some true ∧ ROk r) := by
  unfold F_law13_ready
  rcases p_Far13 hn r with h | ⟨h, hs, _⟩
  · left; rw [h]; rfl
  · rw [h]
    simp only [Option.bind_some, Bool.not_false, if_true, p_Check13 hn hs]
    by_cases h6 : checkR r = 0
    · right; exact ⟨by simp [h6], checkR_ok.1 h6⟩
    · left
      have : (checkR r == 0) = false := by simpa using h6
      rw [this]
end
/-! ### the example -/
def exR : Run := ⟨exD, [⟨0, ⟨10, 14⟩⟩, ⟨0, ⟨12, 15⟩⟩, ⟨3, ⟨4, 6⟩⟩], [⟨13, 1⟩, ⟨5, 3⟩], 0⟩
set_option maxRecDepth 1000000 in
theorem ex_small : SmallR exR := by refine ⟨⟨?_, ?_, ?_⟩, ?_, ?_⟩ <;> decide
set_option maxRecDepth 1000000 in
theorem ex_forces : forcesT exR 2 = ([5, 6], 0) := by kernel_rfl
set_option maxRecDepth 1000000 in
theorem ex_many : manyT exR = (22, 0) := by kernel_rfl
set_option maxRecDepth 1000000 in
theorem ex_harm : harmT exR = (⟨0, 2⟩, 0) := by kernel_rfl
theorem ex_err : errR exR true = 0 := by
  have h := ex_many
  unfold manyT at h
  split at h
  · assumption
  · rename_i hne
    simp only [Prod.mk.injEq] at h
    exact absurd h.2 hne
theorem ex_stood : stoodT exR = (3, 0) := by
  unfold stoodT
  rw [if_pos ex_err, ex_harm]; rfl
theorem ex_of (n : Nat) : F_law13_Example n = some exR := rfl
theorem works13 {n : Nat} (hn : 100000000 ≤ n) : F_law13_works n = some true := by
  simp only [F_law13_works, ex_of, Option.bind_some, p_Forces hn ex_small, p_Many hn ex_small, p_Harm hn ex_small, p_Stood hn ex_small, ex_forces, ex_many, ex_harm, ex_stood, p_sameI hn (a := [5, 6]) (b := [5, 6]) (by decide)]
  rfl
end Go.Proofs.Ytcipdblhopffbaa
end
section
namespace Go.Proofs.Ytcipdblhopffbaa
open Go Go.RowKit Go.Dec
set_option linter.unusedVariables false

theorem fmin_le_of {α : Type} {f g : α → Int} {l m : List α} (h : ∀ x ∈ m, ∃ y ∈ l, f y ≤ g x) (s : Int) : fmin f l s ≤ fmin g m s := by
  obtain ⟨⟨a1, a2⟩, _⟩ := fmin_spec f l s
  obtain ⟨_, b3⟩ := fmin_spec g m s
  rcases b3 with e | ⟨x, hx, e⟩
  · omega
  · obtain ⟨y, hy, hle⟩ := h x hx
    have := a2 y hy; omega
theorem fmax_le_of {α : Type} {f g : α → Int} {l m : List α} (h : ∀ x ∈ m, ∃ y ∈ l, g x ≤ f y) (s : Int) : fmax g m s ≤ fmax f l s := by
  obtain ⟨⟨a1, a2⟩, _⟩ := fmax_spec f l s
  obtain ⟨_, b3⟩ := fmax_spec g m s
  rcases b3 with e | ⟨x, hx, e⟩
  · omega
  · obtain ⟨y, hy, hle⟩ := h x hx
    have := a2 y hy; omega
theorem askN_le (a : Blow → Int → Bool) (bl : List Blow) (c : List Int) : askN a bl c ≤ bl.length := by
  unfold askN
  refine Nat.le_trans List.countP_le_length ?_
  rw [List.length_zip]; omega
theorem harm_low {r : Run} (hr : ROk r) (h : errR r true = 0) : (harmT r).1 = ⟨fmin (fun c => (askN (fellA r.Canopy true) r.Blows c : Int)) (truthsC r) r.Blows.length, fmax (fun c => (askN (fellA r.Canopy false) r.Blows c : Int)) (truthsC r) 0⟩ := by
  unfold harmT; rw [if_pos h]
theorem harm_err (r : Run) : (harmT r).2 = errR r true := by
  unfold harmT
  split
  · rename_i h; exact h.symm
  · rfl
theorem many_err (r : Run) : (manyT r).2 = errR r true := by
  unfold manyT
  split
  · rename_i h; exact h.symm
  · rfl
theorem stood_err (r : Run) : (stoodT r).2 = errR r true := by
  unfold stoodT
  split
  · rename_i h; exact h.symm
  · rfl
theorem forces_in {r : Run} {i : Int} (h0 : 0 ≤ i) (h1 : i < r.Blows.length) : forcesT r i = if errR r true = 0 then (forcesL r i, 0) else ([], errR r true) := by
  have e : wi i 0 ((r.Blows.length : Int) - 1) = true := wi_t.2 ⟨h0, by omega⟩
  unfold forcesT; rw [e]
theorem right_in {r : Run} {i : Int} (h0 : 0 ≤ i) (h1 : i < r.Meters.length) : rightT r i = (if errR r true = 0 then (if ((truthsC r).all (rightC (meterAt r i))) = true then 1 else if ((truthsC r).all fun c => !rightC (meterAt r i) c) = true then 2 else 3, 0) else (0, errR r true)) := by
  have e : wi i 0 ((r.Meters.length : Int) - 1) = true := wi_t.2 ⟨h0, by omega⟩
  unfold rightT; rw [e]
theorem reads_in {r : Run} {a : Int} (h0 : 0 ≤ a) (h1 : a ≤ 99) : readsT r a = (if errR r true = 0 then (⟨fmin (fun c => (askN (readsA a) r.Blows c : Int)) (truthsC r) r.Blows.length, fmax (fun c => (askN (readsA a) r.Blows c : Int)) (truthsC r) 0⟩, 0) else (⟨0, 0⟩, errR r true)) := by
  have e : wi a 0 99 = true := wi_t.2 ⟨h0, h1⟩
  unfold readsT boundsT; rw [e]
/-- the forces of a blow do not hang on more than the truths -/
theorem forces_sub {a b : Run} (ha : ROk a) (hb : ROk b) (hbl : a.Blows = b.Blows) {i : Int} (h0 : 0 ≤ i) (h1 : i < a.Blows.length) (ht : ∀ c ∈ truthsC a, c ∈ truthsC b) : (∀ x ∈ forcesL a i, x ∈ forcesL b i) ∧ (forcesL a i).length ≤ (forcesL b i).length := by
  have hsub : ∀ x ∈ forcesL a i, x ∈ forcesL b i := fun x hx => by
    obtain ⟨c, hc, e⟩ := (forces_mem ha h0 h1).1 hx
    exact (forces_mem hb h0 (by rw [← hbl]; exact h1)).2 ⟨c, ht c hc, e⟩
  refine ⟨hsub, ?_⟩
  have e : blowAt a i = blowAt b i := by unfold blowAt; rw [hbl]
  unfold forcesL at hsub ⊢
  rw [e] at hsub ⊢
  rw [← List.countP_eq_length_filter, ← List.countP_eq_length_filter]
  refine List.countP_mono_left fun x hx hp => ?_
  exact (List.mem_filter.1 (hsub x (List.mem_filter.2 ⟨hx, hp⟩))).2
theorem truths_ext {a b : Run} (hbl : a.Blows = b.Blows) (ht : ∀ c ∈ casesS a.Blows, truthC a c = truthC b c) : truthsC a = truthsC b := by
  unfold truthsC
  rw [← hbl]
  exact List.filter_congr ht
theorem forces_eq {a b : Run} (ha : ROk a) (hb : ROk b) (hbl : a.Blows = b.Blows) {i : Int} (h0 : 0 ≤ i) (h1 : i < a.Blows.length) (ht : truthsC a = truthsC b) : forcesL a i = forcesL b i := by
  have e : blowAt a i = blowAt b i := by unfold blowAt; rw [hbl]
  have h2 := (forces_sub ha hb hbl h0 h1 (by rw [ht]; exact fun c h => h)).1
  have h3 := (forces_sub hb ha hbl.symm h0 (by rw [← hbl]; exact h1) (by rw [ht]; exact fun c h => h)).1
  unfold forcesL at h2 h3 ⊢
  rw [e] at h2 h3 ⊢
  refine List.filter_congr fun x hx => ?_
  rw [Bool.eq_iff_iff]
  exact ⟨fun hp => (List.mem_filter.1 (h2 x (List.mem_filter.2 ⟨hx, hp⟩))).2, fun hp => (List.mem_filter.1 (h3 x (List.mem_filter.2 ⟨hx, hp⟩))).2⟩
theorem truths_pos {r : Run} {is : Bool} (h : errR r is = 0) : 1 ≤ (truthsC r).length := by
  obtain ⟨_, _, h3⟩ := errR_ok h
  exact List.length_pos_iff.2 h3
section
variable {n : Nat} (hn : 100000000 ≤ n)
include hn
/-- all that can be so of a run can be so of another one -/
theorem p_inside {a b : Run} (ha : ROk a) (hb : ROk b) (hbl : a.Blows = b.Blows) (hd : a.Canopy = b.Canopy) {i : Int} (h0 : 0 ≤ i) (h1 : i < a.Blows.length) (ht : ∀ c ∈ truthsC a, c ∈ truthsC b) : F_law13_inside n a b i = some true := by
  have h1' : i < b.Blows.length := by rw [← hbl]; exact h1
  have hf := forces_sub ha hb hbl h0 h1 ht
  have hl := forces_len ha h0 h1
  have hl' := forces_len hb h0 h1'
  simp only [F_law13_inside, p_Many hn ha.small, p_Many hn hb.small, p_Forces hn ha.small, p_Forces hn hb.small, p_Harm hn ha.small, p_Harm hn hb.small, Option.bind_some, harm_err, many_err, forces_in h0 h1, forces_in h0 h1']
  rcases errR_three ha with ea | ea
  · have eb : errR b true = 0 := by
      rw [errR_true hb, if_neg]
      obtain ⟨_, _, h3⟩ := errR_ok ea
      obtain ⟨c, hc⟩ := List.exists_mem_of_ne_nil _ h3
      intro e
      have := ht c hc
      rw [e] at this; cases this
    have hm : (truthsC a).length ≤ (truthsC b).length := by
      unfold truthsC at ht ⊢
      rw [← hbl] at ht ⊢
      rw [← List.countP_eq_length_filter, ← List.countP_eq_length_filter]
      exact List.countP_mono_left fun x hx hp => (List.mem_filter.1 (ht x (List.mem_filter.2 ⟨hx, hp⟩))).2
    have hp := truths_pos ea
    have kk := loop_all_l (step := F_law13_inside_s1 n (forcesL a i, 0) (forcesL b i, 0)) (forcesL a i) (fun x => (forcesL b i).contains x) false (n := n) (by omega) (fun j y hy hj => by
      simp only [F_law13_inside_s1, lt_nat, hj, decide_true, if_true, geti_nat, hy, Option.bind_some, p_hasI hn (l := forcesL b i) (by omega), w64_nat (show j ≤ 4611686018427387904 by omega)]
      cases (forcesL b i).contains y <;> rfl) (by simp [F_law13_inside_s1]) (by omega)
    have hall : ((forcesL a i).all fun x => (forcesL b i).contains x) = true := List.all_eq_true.2 fun x hx => by simpa using hf.1 x hx
    rw [hall] at kk
    simp only [ea, eb, if_true, bne_self_eq_false, Bool.or_self, Bool.false_and, Bool.or_false, Bool.false_or, Bool.and_false, kk, Option.bind_some, cond_true, harm_low ha ea, harm_low hb eb, manyT, Bool.false_eq_true, if_false]
    have e1 : decide (((forcesL b i).length : Int) < ((forcesL a i).length : Int)) = false := decide_eq_false (by have := hf.2; omega)
    have e2 : decide (((truthsC b).length : Int) < ((truthsC a).length : Int)) = false := decide_eq_false (by omega)
    have e3 : decide ((1 : Int) ≤ ((truthsC a).length : Int)) = true := decide_eq_true (by omega)
    have e4 := fmin_le_of (f := fun c => (askN (fellA b.Canopy true) b.Blows c : Int)) (g := fun c => (askN (fellA a.Canopy true) a.Blows c : Int)) (l := truthsC b) (m := truthsC a) (fun x hx => ⟨x, ht x hx, by rw [hbl, hd]; exact Int.le_refl _⟩) a.Blows.length
    have e5 := fmax_le_of (f := fun c => (askN (fellA b.Canopy false) b.Blows c : Int)) (g := fun c => (askN (fellA a.Canopy false) a.Blows c : Int)) (l := truthsC b) (m := truthsC a) (fun x hx => ⟨x, ht x hx, by rw [hbl, hd]; exact Int.le_refl _⟩) 0
    have e6 : ((b.Blows.length : Nat) : Int) = (a.Blows.length : Nat) := by rw [hbl]
    rw [e6]
    have e7 := decide_eq_true e4
    have e8 := decide_eq_true e5
    simp only [e1, e2, e3, e7, e8]
    rfl
  · rcases errR_three hb with eb | eb
    · simp [ea, eb, manyT]
    · simp [ea, eb, manyT]
end
theorem wrong_snoc (ms : List Meter) (m : Meter) (c : List Int) : wrongC (ms ++ [m]) c = wrongC ms c + (if rightC m c = true then 0 else 1) := by
  unfold wrongC
  rw [List.countP_append, List.countP_cons, List.countP_nil]
  cases h : rightC m c <;> simp
end Go.Proofs.Ytcipdblhopffbaa
end
section
namespace Go.Dec
open Go Go.RowKit

theorem Kept.plain {H : Hp} {w w' : World} (h : Kept H w w') (hh : H.hole = none) : Below w.heap.size w w' :=
  ⟨h.below.os, h.below.tape, h.below.output, h.below.size, fun k hk => h.below.block k hk (fun I e => by rw [hh] at e; cases e)⟩
theorem okWide_array {P : Program} {w : World} {r : Reach} {base : Nat} {t : TypeId} {v : Value} {n : Nat} {e : TypeId} (ht : P.underlying t = some (.array n e)) (h : Value.okWide P w r base t v) : ∃ cs, v = .agg cs ∧ cs.size = P.cellsOf t := by
  simp only [Value.okWide, ht] at h
  obtain ⟨cs, h1, h2, _⟩ := h
  exact ⟨cs, h1, h2⟩
def RArr : Rl (List Int) := fun _ cs x => cs = x.map (Value.int .i64)
theorem Opens.arr {T : Type} {enc : TypeId × Value → T} {P : Program} {t e : TypeId} {n : Nat} (ht : P.underlying t = some (.array n e)) (he : P.underlying e = some (.int .i64)) (hc : P.cellsOf e = 1) (hct : P.cellsOf t = n) : Opens enc P t n RArr (fun l => l.length = n ∧ ∀ x ∈ l, I64 x) := by
  intro w base sp held fuel cs y h
  obtain ⟨xs, m, _, rfl, hl, hlen, hel⟩ := DataW.trod_array ht h
  rw [hct] at hl
  refine ⟨hl, ?_⟩
  have each : ∀ i, i < n → ∃ x, cs[i]? = some (.int .i64 x) ∧ I64 x := fun i hi => by
    have h1 := hel i hi
    rw [hc, Nat.mul_one, List.getElem?_eq_getElem (by omega)] at h1
    obtain ⟨_, x, hx, hw⟩ := Opens.int he w base sp held m _ _ h1
    refine ⟨x, ?_, hw⟩
    have hx : (cs.drop i).take 1 = [.int .i64 x] := hx
    have h2 : ((cs.drop i).take 1)[0]? = some (.int .i64 x) := by rw [hx]; rfl
    simpa using h2
  obtain ⟨l, h1, h2⟩ := list_of n each
  refine ⟨l, ?_, h1, fun x hx => ?_⟩
  · show cs = l.map (Value.int .i64)
    apply List.ext_getElem?
    intro i
    by_cases hi : i < n
    · have e1 : l[i]? = some (l[i]'(by omega)) := List.getElem?_eq_getElem (by omega)
      rw [List.getElem?_map, e1]
      exact (h2 i _ e1).1
    · rw [List.getElem?_eq_none (by omega), List.getElem?_eq_none (by rw [List.length_map]; omega)]
  · obtain ⟨i, hi⟩ := List.mem_iff_getElem?.1 hx
    exact (h2 i x hi).2
end Go.Dec
end
section
namespace Go.Proofs.Ytcipdblhopffbaa
open Go Go.RowKit Go.Dec
set_option linter.unusedVariables false
def W_Span (x : Span) : Prop := I64 x.Low ∧ I64 x.High
set_option maxRecDepth 100000 in
theorem o_Span {T : Type} {enc : TypeId × Value → T} : Opens enc Try.prog 49 2 R_Span W_Span := by
  intro w base sp held fuel cs y h
  obtain ⟨xs, n, _, rfl, hl, hlen, hf⟩ := DataW.trod_struct Try.underlying49 h
  have hl2 : cs.length = 2 := hl.trans (by kernel_rfl)
  have hx : xs.length = 2 := hlen
  obtain ⟨c0, c1, rfl⟩ : ∃ c0 c1, cs = [c0, c1] := by
    match cs, hl2 with
    | [c0, c1], _ => exact ⟨_, _, rfl⟩
  have co3 : Try.prog.cellsOf 3 = 1 := by kernel_rfl
  have e0 : DataW.trod enc Try.prog w base sp held n 3 (([c0, c1].drop 0).take (Try.prog.cellsOf 3)) = xs[0]? := hf 0 _ rfl
  rw [co3] at e0
  obtain ⟨_, x0, r0, w0⟩ := (Opens.int (by kernel_rfl)) _ _ _ _ _ _ _ (e0.trans (List.getElem?_eq_getElem (by omega)))
  have e1 : DataW.trod enc Try.prog w base sp held n 3 (([c0, c1].drop 1).take (Try.prog.cellsOf 3)) = xs[1]? := hf 1 _ rfl
  rw [co3] at e1
  obtain ⟨_, x1, r1, w1⟩ := (Opens.int (by kernel_rfl)) _ _ _ _ _ _ _ (e1.trans (List.getElem?_eq_getElem (by omega)))
  have q0 : [c0] = [_] := r0
  cases q0
  have q1 : [c1] = [_] := r1
  cases q1
  exact ⟨rfl, ⟨x0, x1⟩, rfl, w0, w1⟩
def W_Frac (x : Frac) : Prop := I64 x.Num ∧ I64 x.Den
set_option maxRecDepth 100000 in
theorem o_Frac {T : Type} {enc : TypeId × Value → T} : Opens enc Try.prog 24 2 R_Frac W_Frac := by
  intro w base sp held fuel cs y h
  obtain ⟨xs, n, _, rfl, hl, hlen, hf⟩ := DataW.trod_struct Try.underlying24 h
  have hl2 : cs.length = 2 := hl.trans (by kernel_rfl)
  have hx : xs.length = 2 := hlen
  obtain ⟨c0, c1, rfl⟩ : ∃ c0 c1, cs = [c0, c1] := by
    match cs, hl2 with
    | [c0, c1], _ => exact ⟨_, _, rfl⟩
  have co3 : Try.prog.cellsOf 3 = 1 := by kernel_rfl
  have e0 : DataW.trod enc Try.prog w base sp held n 3 (([c0, c1].drop 0).take (Try.prog.cellsOf 3)) = xs[0]? := hf 0 _ rfl
  rw [co3] at e0
  obtain ⟨_, x0, r0, w0⟩ := (Opens.int (by kernel_rfl)) _ _ _ _ _ _ _ (e0.trans (List.getElem?_eq_getElem (by omega)))
  have e1 : DataW.trod enc Try.prog w base sp held n 3 (([c0, c1].drop 1).take (Try.prog.cellsOf 3)) = xs[1]? := hf 1 _ rfl
  rw [co3] at e1
  obtain ⟨_, x1, r1, w1⟩ := (Opens.int (by kernel_rfl)) _ _ _ _ _ _ _ (e1.trans (List.getElem?_eq_getElem (by omega)))
  have q0 : [c0] = [_] := r0
  cases q0
  have q1 : [c1] = [_] := r1
  cases q1
  exact ⟨rfl, ⟨x0, x1⟩, rfl, w0, w1⟩
def W_Section (x : Section) : Prop := W_Span x.Arm ∧ W_Span x.Stretch ∧ I64 x.Base ∧ W_Frac x.Gear
set_option maxRecDepth 100000 in
theorem o_Section {T : Type} {enc : TypeId × Value → T} : Opens enc Try.prog 129 7 R_Section W_Section := by
  intro w base sp held fuel cs y h
  obtain ⟨xs, n, _, rfl, hl, hlen, hf⟩ := DataW.trod_struct Try.underlying129 h
  have hl2 : cs.length = 7 := hl.trans (by kernel_rfl)
  have hx : xs.length = 4 := hlen
  obtain ⟨c0, c1, c2, c3, c4, c5, c6, rfl⟩ : ∃ c0 c1 c2 c3 c4 c5 c6, cs = [c0, c1, c2, c3, c4, c5, c6] := by
    match cs, hl2 with
    | [c0, c1, c2, c3, c4, c5, c6], _ => exact ⟨_, _, _, _, _, _, _, rfl⟩
  have co3 : Try.prog.cellsOf 3 = 1 := by kernel_rfl
  have co24 : Try.prog.cellsOf 24 = 2 := by kernel_rfl
  have co49 : Try.prog.cellsOf 49 = 2 := by kernel_rfl
  have e0 : DataW.trod enc Try.prog w base sp held n 49 (([c0, c1, c2, c3, c4, c5, c6].drop 0).take (Try.prog.cellsOf 49)) = xs[0]? := hf 0 _ rfl
  rw [co49] at e0
  obtain ⟨_, x0, r0, w0⟩ := o_Span _ _ _ _ _ _ _ (e0.trans (List.getElem?_eq_getElem (by omega)))
  have e1 : DataW.trod enc Try.prog w base sp held n 49 (([c0, c1, c2, c3, c4, c5, c6].drop 2).take (Try.prog.cellsOf 49)) = xs[1]? := hf 1 _ rfl
  rw [co49] at e1
  obtain ⟨_, x1, r1, w1⟩ := o_Span _ _ _ _ _ _ _ (e1.trans (List.getElem?_eq_getElem (by omega)))
  have e2 : DataW.trod enc Try.prog w base sp held n 3 (([c0, c1, c2, c3, c4, c5, c6].drop 4).take (Try.prog.cellsOf 3)) = xs[2]? := hf 2 _ rfl
  rw [co3] at e2
  obtain ⟨_, x2, r2, w2⟩ := (Opens.int (by kernel_rfl)) _ _ _ _ _ _ _ (e2.trans (List.getElem?_eq_getElem (by omega)))
  have e3 : DataW.trod enc Try.prog w base sp held n 24 (([c0, c1, c2, c3, c4, c5, c6].drop 5).take (Try.prog.cellsOf 24)) = xs[3]? := hf 3 _ rfl
  rw [co24] at e3
  obtain ⟨_, x3, r3, w3⟩ := o_Frac _ _ _ _ _ _ _ (e3.trans (List.getElem?_eq_getElem (by omega)))
  have q0 : [c0, c1] = _ := r0
  cases q0
  have q1 : [c2, c3] = _ := r1
  cases q1
  have q2 : [c4] = [_] := r2
  cases q2
  have q3 : [c5, c6] = _ := r3
  cases q3
  exact ⟨rfl, ⟨x0, x1, x2, x3⟩, rfl, w0, w1, w2, w3⟩
def W_Frame (x : Frame) : Prop := (fun (l : List Section) => (∀ x ∈ l, W_Section x) ∧ l.length ≤ 9223372036854775807) x.Sections ∧ I64 x.Low ∧ I64 x.High ∧ W_Frac x.Ease ∧ I64 x.Rod ∧ I64 x.Case
set_option maxRecDepth 100000 in
theorem o_Frame {T : Type} {enc : TypeId × Value → T} : Opens enc Try.prog 26 7 R_Frame W_Frame := by
  intro w base sp held fuel cs y h
  obtain ⟨xs, n, _, rfl, hl, hlen, hf⟩ := DataW.trod_struct Try.underlying26 h
  have hl2 : cs.length = 7 := hl.trans (by kernel_rfl)
  have hx : xs.length = 6 := hlen
  obtain ⟨c0, c1, c2, c3, c4, c5, c6, rfl⟩ : ∃ c0 c1 c2 c3 c4 c5 c6, cs = [c0, c1, c2, c3, c4, c5, c6] := by
    match cs, hl2 with
    | [c0, c1, c2, c3, c4, c5, c6], _ => exact ⟨_, _, _, _, _, _, _, rfl⟩
  have co3 : Try.prog.cellsOf 3 = 1 := by kernel_rfl
  have co22 : Try.prog.cellsOf 22 = 1 := by kernel_rfl
  have co24 : Try.prog.cellsOf 24 = 2 := by kernel_rfl
  have e0 : DataW.trod enc Try.prog w base sp held n 22 (([c0, c1, c2, c3, c4, c5, c6].drop 0).take (Try.prog.cellsOf 22)) = xs[0]? := hf 0 _ rfl
  rw [co22] at e0
  obtain ⟨_, x0, r0, w0⟩ := (Opens.slice (e := 129) (sz := 7) (by kernel_rfl) (by kernel_rfl) rfl o_Section) _ _ _ _ _ _ _ (e0.trans (List.getElem?_eq_getElem (by omega)))
  have e1 : DataW.trod enc Try.prog w base sp held n 3 (([c0, c1, c2, c3, c4, c5, c6].drop 1).take (Try.prog.cellsOf 3)) = xs[1]? := hf 1 _ rfl
  rw [co3] at e1
  obtain ⟨_, x1, r1, w1⟩ := (Opens.int (by kernel_rfl)) _ _ _ _ _ _ _ (e1.trans (List.getElem?_eq_getElem (by omega)))
  have e2 : DataW.trod enc Try.prog w base sp held n 3 (([c0, c1, c2, c3, c4, c5, c6].drop 2).take (Try.prog.cellsOf 3)) = xs[2]? := hf 2 _ rfl
  rw [co3] at e2
  obtain ⟨_, x2, r2, w2⟩ := (Opens.int (by kernel_rfl)) _ _ _ _ _ _ _ (e2.trans (List.getElem?_eq_getElem (by omega)))
  have e3 : DataW.trod enc Try.prog w base sp held n 24 (([c0, c1, c2, c3, c4, c5, c6].drop 3).take (Try.prog.cellsOf 24)) = xs[3]? := hf 3 _ rfl
  rw [co24] at e3
  obtain ⟨_, x3, r3, w3⟩ := o_Frac _ _ _ _ _ _ _ (e3.trans (List.getElem?_eq_getElem (by omega)))
  have e4 : DataW.trod enc Try.prog w base sp held n 3 (([c0, c1, c2, c3, c4, c5, c6].drop 5).take (Try.prog.cellsOf 3)) = xs[4]? := hf 4 _ rfl
  rw [co3] at e4
  obtain ⟨_, x4, r4, w4⟩ := (Opens.int (by kernel_rfl)) _ _ _ _ _ _ _ (e4.trans (List.getElem?_eq_getElem (by omega)))
  have e5 : DataW.trod enc Try.prog w base sp held n 3 (([c0, c1, c2, c3, c4, c5, c6].drop 6).take (Try.prog.cellsOf 3)) = xs[5]? := hf 5 _ rfl
  rw [co3] at e5
  obtain ⟨_, x5, r5, w5⟩ := (Opens.int (by kernel_rfl)) _ _ _ _ _ _ _ (e5.trans (List.getElem?_eq_getElem (by omega)))
  obtain ⟨v0, q0, s0⟩ := r0
  have q0 : [c0] = [v0] := q0
  cases q0
  have q1 : [c1] = [_] := r1
  cases q1
  have q2 : [c2] = [_] := r2
  cases q2
  have q3 : [c3, c4] = _ := r3
  cases q3
  have q4 : [c5] = [_] := r4
  cases q4
  have q5 : [c6] = [_] := r5
  cases q5
  exact ⟨rfl, ⟨x0, x1, x2, x3, x4, x5⟩, ⟨c0, rfl, s0⟩, w0, w1, w2, w3, w4, w5⟩
def W_Canopy (x : Canopy) : Prop := W_Frame x.Frame ∧ (fun (l : List Span) => (∀ x ∈ l, W_Span x) ∧ l.length ≤ 9223372036854775807) x.Ribs ∧ (fun (l : List Int) => (∀ x ∈ l, I64 x) ∧ l.length ≤ 9223372036854775807) x.Shares
set_option maxRecDepth 100000 in
theorem o_Canopy {T : Type} {enc : TypeId × Value → T} : Opens enc Try.prog 30 9 R_Canopy W_Canopy := by
  intro w base sp held fuel cs y h
  obtain ⟨xs, n, _, rfl, hl, hlen, hf⟩ := DataW.trod_struct Try.underlying30 h
  have hl2 : cs.length = 9 := hl.trans (by kernel_rfl)
  have hx : xs.length = 3 := hlen
  obtain ⟨c0, c1, c2, c3, c4, c5, c6, c7, c8, rfl⟩ : ∃ c0 c1 c2 c3 c4 c5 c6 c7 c8, cs = [c0, c1, c2, c3, c4, c5, c6, c7, c8] := by
    match cs, hl2 with
    | [c0, c1, c2, c3, c4, c5, c6, c7, c8], _ => exact ⟨_, _, _, _, _, _, _, _, _, rfl⟩
  have co26 : Try.prog.cellsOf 26 = 7 := by kernel_rfl
  have co27 : Try.prog.cellsOf 27 = 1 := by kernel_rfl
  have co28 : Try.prog.cellsOf 28 = 1 := by kernel_rfl
  have e0 : DataW.trod enc Try.prog w base sp held n 26 (([c0, c1, c2, c3, c4, c5, c6, c7, c8].drop 0).take (Try.prog.cellsOf 26)) = xs[0]? := hf 0 _ rfl
  rw [co26] at e0
  obtain ⟨_, x0, r0, w0⟩ := o_Frame _ _ _ _ _ _ _ (e0.trans (List.getElem?_eq_getElem (by omega)))
  have e1 : DataW.trod enc Try.prog w base sp held n 27 (([c0, c1, c2, c3, c4, c5, c6, c7, c8].drop 7).take (Try.prog.cellsOf 27)) = xs[1]? := hf 1 _ rfl
  rw [co27] at e1
  obtain ⟨_, x1, r1, w1⟩ := (Opens.slice (e := 49) (sz := 2) (by kernel_rfl) (by kernel_rfl) rfl o_Span) _ _ _ _ _ _ _ (e1.trans (List.getElem?_eq_getElem (by omega)))
  have e2 : DataW.trod enc Try.prog w base sp held n 28 (([c0, c1, c2, c3, c4, c5, c6, c7, c8].drop 8).take (Try.prog.cellsOf 28)) = xs[2]? := hf 2 _ rfl
  rw [co28] at e2
  obtain ⟨_, x2, r2, w2⟩ := (Opens.slice (e := 3) (sz := 1) (by kernel_rfl) (by kernel_rfl) rfl (Opens.int (by kernel_rfl))) _ _ _ _ _ _ _ (e2.trans (List.getElem?_eq_getElem (by omega)))
  obtain ⟨v0_0, q0, s0_0⟩ := r0
  cases q0
  obtain ⟨v1, q1, s1⟩ := r1
  have q1 : [c7] = [v1] := q1
  cases q1
  obtain ⟨v2, q2, s2⟩ := r2
  have q2 : [c8] = [v2] := q2
  cases q2
  exact ⟨rfl, ⟨x0, x1, x2⟩, ⟨c0, c7, c8, rfl, s0_0, s1, s2⟩, w0, w1, w2⟩
def W_Blow (x : Blow) : Prop := I64 x.At ∧ W_Span x.Force
set_option maxRecDepth 100000 in
theorem o_Blow {T : Type} {enc : TypeId × Value → T} : Opens enc Try.prog 56 3 R_Blow W_Blow := by
  intro w base sp held fuel cs y h
  obtain ⟨xs, n, _, rfl, hl, hlen, hf⟩ := DataW.trod_struct Try.underlying56 h
  have hl2 : cs.length = 3 := hl.trans (by kernel_rfl)
  have hx : xs.length = 2 := hlen
  obtain ⟨c0, c1, c2, rfl⟩ : ∃ c0 c1 c2, cs = [c0, c1, c2] := by
    match cs, hl2 with
    | [c0, c1, c2], _ => exact ⟨_, _, _, rfl⟩
  have co3 : Try.prog.cellsOf 3 = 1 := by kernel_rfl
  have co49 : Try.prog.cellsOf 49 = 2 := by kernel_rfl
  have e0 : DataW.trod enc Try.prog w base sp held n 3 (([c0, c1, c2].drop 0).take (Try.prog.cellsOf 3)) = xs[0]? := hf 0 _ rfl
  rw [co3] at e0
  obtain ⟨_, x0, r0, w0⟩ := (Opens.int (by kernel_rfl)) _ _ _ _ _ _ _ (e0.trans (List.getElem?_eq_getElem (by omega)))
  have e1 : DataW.trod enc Try.prog w base sp held n 49 (([c0, c1, c2].drop 1).take (Try.prog.cellsOf 49)) = xs[1]? := hf 1 _ rfl
  rw [co49] at e1
  obtain ⟨_, x1, r1, w1⟩ := o_Span _ _ _ _ _ _ _ (e1.trans (List.getElem?_eq_getElem (by omega)))
  have q0 : [c0] = [_] := r0
  cases q0
  have q1 : [c1, c2] = _ := r1
  cases q1
  exact ⟨rfl, ⟨x0, x1⟩, rfl, w0, w1⟩
def W_Meter (x : Meter) : Prop := I64 x.Limit ∧ I64 x.Count
set_option maxRecDepth 100000 in
theorem o_Meter {T : Type} {enc : TypeId × Value → T} : Opens enc Try.prog 36 2 R_Meter W_Meter := by
  intro w base sp held fuel cs y h
  obtain ⟨xs, n, _, rfl, hl, hlen, hf⟩ := DataW.trod_struct Try.underlying36 h
  have hl2 : cs.length = 2 := hl.trans (by kernel_rfl)
  have hx : xs.length = 2 := hlen
  obtain ⟨c0, c1, rfl⟩ : ∃ c0 c1, cs = [c0, c1] := by
    match cs, hl2 with
    | [c0, c1], _ => exact ⟨_, _, rfl⟩
  have co3 : Try.prog.cellsOf 3 = 1 := by kernel_rfl
  have e0 : DataW.trod enc Try.prog w base sp held n 3 (([c0, c1].drop 0).take (Try.prog.cellsOf 3)) = xs[0]? := hf 0 _ rfl
  rw [co3] at e0
  obtain ⟨_, x0, r0, w0⟩ := (Opens.int (by kernel_rfl)) _ _ _ _ _ _ _ (e0.trans (List.getElem?_eq_getElem (by omega)))
  have e1 : DataW.trod enc Try.prog w base sp held n 3 (([c0, c1].drop 1).take (Try.prog.cellsOf 3)) = xs[1]? := hf 1 _ rfl
  rw [co3] at e1
  obtain ⟨_, x1, r1, w1⟩ := (Opens.int (by kernel_rfl)) _ _ _ _ _ _ _ (e1.trans (List.getElem?_eq_getElem (by omega)))
  have q0 : [c0] = [_] := r0
  cases q0
  have q1 : [c1] = [_] := r1
  cases q1
  exact ⟨rfl, ⟨x0, x1⟩, rfl, w0, w1⟩
def W_Run (x : Run) : Prop := W_Canopy x.Canopy ∧ (fun (l : List Blow) => (∀ x ∈ l, W_Blow x) ∧ l.length ≤ 9223372036854775807) x.Blows ∧ (fun (l : List Meter) => (∀ x ∈ l, W_Meter x) ∧ l.length ≤ 9223372036854775807) x.Meters ∧ I64 x.Wrong
set_option maxRecDepth 100000 in
theorem o_Run {T : Type} {enc : TypeId × Value → T} : Opens enc Try.prog 34 12 R_Run W_Run := by
  intro w base sp held fuel cs y h
  obtain ⟨xs, n, _, rfl, hl, hlen, hf⟩ := DataW.trod_struct Try.underlying34 h
  have hl2 : cs.length = 12 := hl.trans (by kernel_rfl)
  have hx : xs.length = 4 := hlen
  obtain ⟨c0, c1, c2, c3, c4, c5, c6, c7, c8, c9, c10, c11, rfl⟩ : ∃ c0 c1 c2 c3 c4 c5 c6 c7 c8 c9 c10 c11, cs = [c0, c1, c2, c3, c4, c5, c6, c7, c8, c9, c10, c11] := by
    match cs, hl2 with
    | [c0, c1, c2, c3, c4, c5, c6, c7, c8, c9, c10, c11], _ => exact ⟨_, _, _, _, _, _, _, _, _, _, _, _, rfl⟩
  have co3 : Try.prog.cellsOf 3 = 1 := by kernel_rfl
  have co30 : Try.prog.cellsOf 30 = 9 := by kernel_rfl
  have co31 : Try.prog.cellsOf 31 = 1 := by kernel_rfl
  have co32 : Try.prog.cellsOf 32 = 1 := by kernel_rfl
  have e0 : DataW.trod enc Try.prog w base sp held n 30 (([c0, c1, c2, c3, c4, c5, c6, c7, c8, c9, c10, c11].drop 0).take (Try.prog.cellsOf 30)) = xs[0]? := hf 0 _ rfl
  rw [co30] at e0
  obtain ⟨_, x0, r0, w0⟩ := o_Canopy _ _ _ _ _ _ _ (e0.trans (List.getElem?_eq_getElem (by omega)))
  have e1 : DataW.trod enc Try.prog w base sp held n 31 (([c0, c1, c2, c3, c4, c5, c6, c7, c8, c9, c10, c11].drop 9).take (Try.prog.cellsOf 31)) = xs[1]? := hf 1 _ rfl
  rw [co31] at e1
  obtain ⟨_, x1, r1, w1⟩ := (Opens.slice (e := 56) (sz := 3) (by kernel_rfl) (by kernel_rfl) rfl o_Blow) _ _ _ _ _ _ _ (e1.trans (List.getElem?_eq_getElem (by omega)))
  have e2 : DataW.trod enc Try.prog w base sp held n 32 (([c0, c1, c2, c3, c4, c5, c6, c7, c8, c9, c10, c11].drop 10).take (Try.prog.cellsOf 32)) = xs[2]? := hf 2 _ rfl
  rw [co32] at e2
  obtain ⟨_, x2, r2, w2⟩ := (Opens.slice (e := 36) (sz := 2) (by kernel_rfl) (by kernel_rfl) rfl o_Meter) _ _ _ _ _ _ _ (e2.trans (List.getElem?_eq_getElem (by omega)))
  have e3 : DataW.trod enc Try.prog w base sp held n 3 (([c0, c1, c2, c3, c4, c5, c6, c7, c8, c9, c10, c11].drop 11).take (Try.prog.cellsOf 3)) = xs[3]? := hf 3 _ rfl
  rw [co3] at e3
  obtain ⟨_, x3, r3, w3⟩ := (Opens.int (by kernel_rfl)) _ _ _ _ _ _ _ (e3.trans (List.getElem?_eq_getElem (by omega)))
  obtain ⟨v0_0, v0_7, v0_8, q0, s0_0, s0_7, s0_8⟩ := r0
  cases q0
  obtain ⟨v1, q1, s1⟩ := r1
  have q1 : [c9] = [v1] := q1
  cases q1
  obtain ⟨v2, q2, s2⟩ := r2
  have q2 : [c10] = [v2] := q2
  cases q2
  have q3 : [c11] = [_] := r3
  cases q3
  exact ⟨rfl, ⟨x0, x1, x2, x3⟩, ⟨c0, c7, c8, c9, c10, rfl, s0_0, s0_7, s0_8, s1, s2⟩, w0, w1, w2, w3⟩
def W_law13_Stronger (x : law13_Stronger) : Prop := I64 x.Rib ∧ I64 x.By ∧ I64 x.Blow
set_option maxRecDepth 100000 in
theorem o_law13_Stronger {T : Type} {enc : TypeId × Value → T} : Opens enc Try.prog 43 3 R_law13_Stronger W_law13_Stronger := by
  intro w base sp held fuel cs y h
  obtain ⟨xs, n, _, rfl, hl, hlen, hf⟩ := DataW.trod_struct Try.underlying43 h
  have hl2 : cs.length = 3 := hl.trans (by kernel_rfl)
  have hx : xs.length = 3 := hlen
  obtain ⟨c0, c1, c2, rfl⟩ : ∃ c0 c1 c2, cs = [c0, c1, c2] := by
    match cs, hl2 with
    | [c0, c1, c2], _ => exact ⟨_, _, _, rfl⟩
  have co3 : Try.prog.cellsOf 3 = 1 := by kernel_rfl
  have e0 : DataW.trod enc Try.prog w base sp held n 3 (([c0, c1, c2].drop 0).take (Try.prog.cellsOf 3)) = xs[0]? := hf 0 _ rfl
  rw [co3] at e0
  obtain ⟨_, x0, r0, w0⟩ := (Opens.int (by kernel_rfl)) _ _ _ _ _ _ _ (e0.trans (List.getElem?_eq_getElem (by omega)))
  have e1 : DataW.trod enc Try.prog w base sp held n 3 (([c0, c1, c2].drop 1).take (Try.prog.cellsOf 3)) = xs[1]? := hf 1 _ rfl
  rw [co3] at e1
  obtain ⟨_, x1, r1, w1⟩ := (Opens.int (by kernel_rfl)) _ _ _ _ _ _ _ (e1.trans (List.getElem?_eq_getElem (by omega)))
  have e2 : DataW.trod enc Try.prog w base sp held n 3 (([c0, c1, c2].drop 2).take (Try.prog.cellsOf 3)) = xs[2]? := hf 2 _ rfl
  rw [co3] at e2
  obtain ⟨_, x2, r2, w2⟩ := (Opens.int (by kernel_rfl)) _ _ _ _ _ _ _ (e2.trans (List.getElem?_eq_getElem (by omega)))
  have q0 : [c0] = [_] := r0
  cases q0
  have q1 : [c1] = [_] := r1
  cases q1
  have q2 : [c2] = [_] := r2
  cases q2
  exact ⟨rfl, ⟨x0, x1, x2⟩, rfl, w0, w1, w2⟩
def W_law13_Ask (x : law13_Ask) : Prop := I64 x.Blow ∧ I64 x.Meter ∧ I64 x.Limit
set_option maxRecDepth 100000 in
theorem o_law13_Ask {T : Type} {enc : TypeId × Value → T} : Opens enc Try.prog 67 3 R_law13_Ask W_law13_Ask := by
  intro w base sp held fuel cs y h
  obtain ⟨xs, n, _, rfl, hl, hlen, hf⟩ := DataW.trod_struct Try.underlying67 h
  have hl2 : cs.length = 3 := hl.trans (by kernel_rfl)
  have hx : xs.length = 3 := hlen
  obtain ⟨c0, c1, c2, rfl⟩ : ∃ c0 c1 c2, cs = [c0, c1, c2] := by
    match cs, hl2 with
    | [c0, c1, c2], _ => exact ⟨_, _, _, rfl⟩
  have co3 : Try.prog.cellsOf 3 = 1 := by kernel_rfl
  have e0 : DataW.trod enc Try.prog w base sp held n 3 (([c0, c1, c2].drop 0).take (Try.prog.cellsOf 3)) = xs[0]? := hf 0 _ rfl
  rw [co3] at e0
  obtain ⟨_, x0, r0, w0⟩ := (Opens.int (by kernel_rfl)) _ _ _ _ _ _ _ (e0.trans (List.getElem?_eq_getElem (by omega)))
  have e1 : DataW.trod enc Try.prog w base sp held n 3 (([c0, c1, c2].drop 1).take (Try.prog.cellsOf 3)) = xs[1]? := hf 1 _ rfl
  rw [co3] at e1
  obtain ⟨_, x1, r1, w1⟩ := (Opens.int (by kernel_rfl)) _ _ _ _ _ _ _ (e1.trans (List.getElem?_eq_getElem (by omega)))
  have e2 : DataW.trod enc Try.prog w base sp held n 3 (([c0, c1, c2].drop 2).take (Try.prog.cellsOf 3)) = xs[2]? := hf 2 _ rfl
  rw [co3] at e2
  obtain ⟨_, x2, r2, w2⟩ := (Opens.int (by kernel_rfl)) _ _ _ _ _ _ _ (e2.trans (List.getElem?_eq_getElem (by omega)))
  have q0 : [c0] = [_] := r0
  cases q0
  have q1 : [c1] = [_] := r1
  cases q1
  have q2 : [c2] = [_] := r2
  cases q2
  exact ⟨rfl, ⟨x0, x1, x2⟩, rfl, w0, w1, w2⟩
end Go.Proofs.Ytcipdblhopffbaa
end
section
namespace Go.Proofs.Ytcipdblhopffbaa
open Go Go.RowKit Go.Dec
set_option linter.unusedVariables false
-- 3 ferrule/ferrulelaw13.CountsMore
noncomputable def F_law13_CountsMore (n : Nat) (r : Run) (m : Meter) (blow : Int) : Option Bool :=
  (F_law13_ready n r).bind fun y3 => if ((((!y3) || (decide (5 ≤ (r.Meters.length : Int)))) || (decide (blow < 0))) || (decide ((r.Blows.length : Int) ≤ blow))) = true then ((F_law13_works n).bind fun y11 => some y11) else ((F_ref13_Copy n r).bind fun y13 => (F_ref13_Copy n r).bind fun y18 => (lim (y13.Meters ++ [m])).bind fun l93 => (F_law13_ready n (Run.mk y13.Canopy y13.Blows l93 y13.Wrong)).bind fun y101 => if (!y101) = true then ((F_law13_works n).bind fun y103 => some y103) else ((F_law13_inside n (Run.mk y13.Canopy y13.Blows l93 y13.Wrong) r blow).bind fun y107 => (if y107 = true then ((F_law13_inside n r (Run.mk y18.Canopy y18.Blows y18.Meters (min 5 (w64 (r.Wrong + 1)))) blow).bind fun y118 => some y118) else (some false) : Option Bool).bind fun p112 => (if p112 = true then ((F_law13_works n).bind fun y123 => some y123) else (some false) : Option Bool).bind fun p120 => some p120))
set_option maxRecDepth 100000 in
set_option maxHeartbeats 40000000 in
theorem c_law13_CountsMore (n : Nat) (H : Hp) (r : Run) (r_v0 : Value) (hr_0 : SL H 7 R_Section r_v0 r.Canopy.Frame.Sections) (r_v7 : Value) (hr_7 : SL H 2 R_Span r_v7 r.Canopy.Ribs) (r_v8 : Value) (hr_8 : SL H 1 RInt r_v8 r.Canopy.Shares) (r_v9 : Value) (hr_9 : SL H 3 R_Blow r_v9 r.Blows) (r_v10 : Value) (hr_10 : SL H 2 R_Meter r_v10 r.Meters) (m : Meter) (blow : Int) (y : Bool) (hF : F_law13_CountsMore n r m blow = some y) : SC Try.prog 3 [.agg [r_v0, .int .i64 r.Canopy.Frame.Low, .int .i64 r.Canopy.Frame.High, .int .i64 r.Canopy.Frame.Ease.Num, .int .i64 r.Canopy.Frame.Ease.Den, .int .i64 r.Canopy.Frame.Rod, .int .i64 r.Canopy.Frame.Case, r_v7, r_v8, r_v9, r_v10, .int .i64 r.Wrong].toArray, .agg [.int .i64 m.Limit, .int .i64 m.Count].toArray, .int .i64 blow] (.bool y) H := by
  rw [F_law13_CountsMore] at hF
  refine SC.of (N := 62) Try.func3 rfl rfl rfl fun w => ?_
  refine JC.seq ?_
  refine JC.region (by rfl) ?_
  intro hQ
  refine JL.box (cs := [r_v0, .int .i64 r.Canopy.Frame.Low, .int .i64 r.Canopy.Frame.High, .int .i64 r.Canopy.Frame.Ease.Num, .int .i64 r.Canopy.Frame.Ease.Den, .int .i64 r.Canopy.Frame.Rod, .int .i64 r.Canopy.Frame.Case, r_v7, r_v8, r_v9, r_v10, .int .i64 r.Wrong]) rfl .none rfl ?_
  intro b1
  refine JL.box (cs := [.int .i64 m.Limit, .int .i64 m.Count]) rfl .none rfl ?_
  intro b2
  refine JL.assign .none rfl ?_
  refine JL.done hQ ?_
  refine JQ.go ?_
  refine JC.seq ?_
  refine JC.seq ?_
  refine JC.region (by rfl) ?_
  intro hQ
  refine JL.loadOwn 1 az_34 rfl rfl rfl .none rfl ?_
  obtain ⟨y3, hy3, hF⟩ := bind_some hF
  refine JL.callS (c_law13_ready n H r r_v0 hr_0 r_v7 hr_7 r_v8 hr_8 r_v9 hr_9 r_v10 hr_10 y3 hy3) rfl en_8 .none rfl ?_
  refine JL.not rfl .none rfl ?_
  refine JL.move .none rfl ?_
  refine JL.cut 5 (fun f => f 2 = .int .i64 blow ∧ f 3 = .pointer (some ⟨b1, 0, none⟩) ∧ f 4 = .pointer (some ⟨b2, 0, none⟩) ∧ f 17 = .bool ((!y3) || (decide (5 ≤ (r.Meters.length : Int))))) ?_ ?_
  · intro hJ4
    rcases bcases (!y3) with hc5 | hc5
    · skip
      refine JL.skip (.bool rfl rfl rfl hc5) rfl ?_
      refine JL.skip (.bool rfl rfl rfl hc5) rfl ?_
      refine JL.skip (.bool rfl rfl rfl hc5) rfl ?_
      refine JL.skip (.bool rfl rfl rfl hc5) rfl ?_
      refine JL.pick_t (b := (!y3)) rfl hc5 .none rfl ?_
      exact hJ4 _ ⟨rfl, rfl, rfl, or_t hc5 rfl⟩
    · skip
      refine JL.fieldAddr fo_34_2 rfl (.some rfl rfl rfl hc5) rfl ?_
      refine JL.loadOwn 1 az_32 rfl rfl rfl (.some rfl rfl rfl hc5) rfl ?_
      refine JL.lenSL (R := R_Meter) ul_32 hr_10 (.some rfl rfl rfl hc5) rfl ?_
      refine JL.bin rfl rfl rfl (.some rfl rfl rfl hc5) rfl ?_
      refine JL.pick_f (b := (!y3)) rfl hc5 .none rfl ?_
      exact hJ4 _ ⟨rfl, rfl, rfl, or_f hc5 rfl⟩
  · rintro f ⟨hf2, hf3, hf4, hf17⟩
    refine (JL.norm (i := 2) hf2 (JL.norm (i := 3) hf3 (JL.norm (i := 4) hf4 (JL.norm (i := 17) hf17 ?_))))
    refine JL.move .none rfl ?_
    refine JL.cut 3 (fun f => f 2 = .int .i64 blow ∧ f 3 = .pointer (some ⟨b1, 0, none⟩) ∧ f 4 = .pointer (some ⟨b2, 0, none⟩) ∧ f 21 = .bool (((!y3) || (decide (5 ≤ (r.Meters.length : Int)))) || (decide (blow < 0)))) ?_ ?_
    · intro hJ6
      rcases bcases ((!y3) || (decide (5 ≤ (r.Meters.length : Int)))) with hc7 | hc7
      · skip
        refine JL.skip (.bool rfl rfl rfl hc7) rfl ?_
        refine JL.skip (.bool rfl rfl rfl hc7) rfl ?_
        refine JL.pick_t (b := ((!y3) || (decide (5 ≤ (r.Meters.length : Int))))) rfl hc7 .none rfl ?_
        exact hJ6 _ ⟨rfl, rfl, rfl, or_t hc7 rfl⟩
      · skip
        refine JL.move (.some rfl rfl rfl hc7) rfl ?_
        refine JL.bin rfl rfl rfl (.some rfl rfl rfl hc7) rfl ?_
        refine JL.pick_f (b := ((!y3) || (decide (5 ≤ (r.Meters.length : Int))))) rfl hc7 .none rfl ?_
        exact hJ6 _ ⟨rfl, rfl, rfl, or_f hc7 rfl⟩
    · rintro f ⟨hf2, hf3, hf4, hf21⟩
      refine (JL.norm (i := 2) hf2 (JL.norm (i := 3) hf3 (JL.norm (i := 4) hf4 (JL.norm (i := 21) hf21 ?_))))
      refine JL.move .none rfl ?_
      refine JL.cut 6 (fun f => f 2 = .int .i64 blow ∧ f 3 = .pointer (some ⟨b1, 0, none⟩) ∧ f 4 = .pointer (some ⟨b2, 0, none⟩) ∧ f 28 = .bool ((((!y3) || (decide (5 ≤ (r.Meters.length : Int)))) || (decide (blow < 0))) || (decide ((r.Blows.length : Int) ≤ blow)))) ?_ ?_
      · intro hJ8
        rcases bcases (((!y3) || (decide (5 ≤ (r.Meters.length : Int)))) || (decide (blow < 0))) with hc9 | hc9
        · skip
          refine JL.skip (.bool rfl rfl rfl hc9) rfl ?_
          refine JL.skip (.bool rfl rfl rfl hc9) rfl ?_
          refine JL.skip (.bool rfl rfl rfl hc9) rfl ?_
          refine JL.skip (.bool rfl rfl rfl hc9) rfl ?_
          refine JL.skip (.bool rfl rfl rfl hc9) rfl ?_
          refine JL.pick_t (b := (((!y3) || (decide (5 ≤ (r.Meters.length : Int)))) || (decide (blow < 0)))) rfl hc9 .none rfl ?_
          exact hJ8 _ ⟨rfl, rfl, rfl, or_t hc9 rfl⟩
        · skip
          refine JL.move (.some rfl rfl rfl hc9) rfl ?_
          refine JL.fieldAddr fo_34_1 rfl (.some rfl rfl rfl hc9) rfl ?_
          refine JL.loadOwn 1 az_31 rfl rfl rfl (.some rfl rfl rfl hc9) rfl ?_
          refine JL.lenSL (R := R_Blow) ul_31 hr_9 (.some rfl rfl rfl hc9) rfl ?_
          refine JL.bin rfl rfl rfl (.some rfl rfl rfl hc9) rfl ?_
          refine JL.pick_f (b := (((!y3) || (decide (5 ≤ (r.Meters.length : Int)))) || (decide (blow < 0)))) rfl hc9 .none rfl ?_
          exact hJ8 _ ⟨rfl, rfl, rfl, or_f hc9 rfl⟩
      · rintro f ⟨hf2, hf3, hf4, hf28⟩
        refine (JL.norm (i := 2) hf2 (JL.norm (i := 3) hf3 (JL.norm (i := 4) hf4 (JL.norm (i := 28) hf28 ?_))))
        refine JL.done hQ ?_
        refine JQ.go ?_
        rcases ite_some hF with ⟨hc10, hF⟩ | ⟨hc10, hF⟩
        · refine JC.cond_t (b := ((((!y3) || (decide (5 ≤ (r.Meters.length : Int)))) || (decide (blow < 0))) || (decide ((r.Blows.length : Int) ≤ blow)))) rfl hc10 ?_
          refine JC.seq ?_
          refine JC.region (by rfl) ?_
          intro hQ
          obtain ⟨y11, hy11, hF⟩ := bind_some hF
          refine JL.callS (c_law13_works n H y11 hy11) rfl en_9 .none rfl ?_
          refine JL.assign .none rfl ?_
          refine JL.done hQ ?_
          refine JQ.go ?_
          refine JC.ret ?_
          refine JQ.ret_then ?_
          obtain rfl := Option.some.inj hF
          exact JQ.outS rfl (.tmp .nil) rfl
        · refine JC.cond_f (b := ((((!y3) || (decide (5 ≤ (r.Meters.length : Int)))) || (decide (blow < 0))) || (decide ((r.Blows.length : Int) ≤ blow)))) rfl hc10 ?_
          refine JC.skip ?_
          refine JQ.go ?_
          refine JC.seq ?_
          obtain ⟨y13, hy13, hF⟩ := bind_some hF
          obtain ⟨y18, hy18, hF⟩ := bind_some hF
          refine JC.mixed 8 8 #[false, false, false, false, false, false, false, false] [(b2, .cells [.int .i64 m.Limit, .int .i64 m.Count].toArray 36), (b1, .cells [r_v0, .int .i64 r.Canopy.Frame.Low, .int .i64 r.Canopy.Frame.High, .int .i64 r.Canopy.Frame.Ease.Num, .int .i64 r.Canopy.Frame.Ease.Den, .int .i64 r.Canopy.Frame.Rod, .int .i64 r.Canopy.Frame.Case, r_v7, r_v8, r_v9, r_v10, .int .i64 r.Wrong].toArray 34)] (by rfl) mo_ (by kernel_rfl) (by kernel_rfl) ?_
          intro hQ hE
          refine JA.cut 2 #[true, true, true, true, true, true, false, false] (fun H77 f bs gs => ∃ (b67 : Nat) (b51 : Nat) (y13_v0 : Value) (y13_v1 : Value) (y13_v2 : Value) (y18_v0 : Value) (y18_v1 : Value) (y18_v2 : Value) (y18_v4 : Value) (y18_xs4 : List Value) (y18_v3 : Value) (y18_xs3 : List Value) (y13_v4 : Value) (y13_xs4 : List Value) (y13_v3 : Value) (y13_xs3 : List Value), f 2 = .int .i64 blow ∧ f 3 = .pointer (some ⟨b1, 0, none⟩) ∧ f 4 = .pointer (some ⟨b2, 0, none⟩) ∧ f 7 = .pointer (some ⟨b51, 0, none⟩) ∧ f 8 = .pointer (some ⟨b67, 0, none⟩) ∧ f 31 = .agg [y13_v0, .int .i64 y13.Canopy.Frame.Low, .int .i64 y13.Canopy.Frame.High, .int .i64 y13.Canopy.Frame.Ease.Num, .int .i64 y13.Canopy.Frame.Ease.Den, .int .i64 y13.Canopy.Frame.Rod, .int .i64 y13.Canopy.Frame.Case, y13_v1, y13_v2, y13_v3, y13_v4, .int .i64 y13.Wrong].toArray ∧ f 33 = .agg [y18_v0, .int .i64 y18.Canopy.Frame.Low, .int .i64 y18.Canopy.Frame.High, .int .i64 y18.Canopy.Frame.Ease.Num, .int .i64 y18.Canopy.Frame.Ease.Den, .int .i64 y18.Canopy.Frame.Rod, .int .i64 y18.Canopy.Frame.Case, y18_v1, y18_v2, y18_v3, y18_v4, .int .i64 y18.Wrong].toArray ∧ bs = [(b67, .cells [.slice none 0 0, .int .i64 0, .int .i64 0, .int .i64 0, .int .i64 0, .int .i64 0, .int .i64 0, .slice none 0 0, .slice none 0 0, .slice none 0 0, .slice none 0 0, .int .i64 0].toArray 34), (b51, .cells [.slice none 0 0, .int .i64 0, .int .i64 0, .int .i64 0, .int .i64 0, .int .i64 0, .int .i64 0, .slice none 0 0, .slice none 0 0, .slice none 0 0, .slice none 0 0, .int .i64 0].toArray 34), (b2, .cells [.int .i64 m.Limit, .int .i64 m.Count].toArray 36), (b1, .cells [r_v0, .int .i64 r.Canopy.Frame.Low, .int .i64 r.Canopy.Frame.High, .int .i64 r.Canopy.Frame.Ease.Num, .int .i64 r.Canopy.Frame.Ease.Den, .int .i64 r.Canopy.Frame.Rod, .int .i64 r.Canopy.Frame.Case, r_v7, r_v8, r_v9, r_v10, .int .i64 r.Wrong].toArray 34)] ∧ gs = [⟨y18_v4, 36, 2, y18.Meters.length, y18_xs4⟩, ⟨y18_v3, 56, 3, y18.Blows.length, y18_xs3⟩, ⟨y13_v4, 36, 2, y13.Meters.length, y13_xs4⟩, ⟨y13_v3, 56, 3, y13.Blows.length, y13_xs3⟩] ∧ SL H77 7 R_Section y13_v0 y13.Canopy.Frame.Sections ∧ SL H77 2 R_Span y13_v1 y13.Canopy.Ribs ∧ SL H77 1 RInt y13_v2 y13.Canopy.Shares ∧ SL H77 7 R_Section y18_v0 y18.Canopy.Frame.Sections ∧ SL H77 2 R_Span y18_v1 y18.Canopy.Ribs ∧ SL H77 1 RInt y18_v2 y18.Canopy.Shares ∧ CH H77 2 R_Meter y18_xs4 y18.Meters ∧ CH H77 3 R_Blow y18_xs3 y18.Blows ∧ CH H77 2 R_Meter y13_xs4 y13.Meters ∧ CH H77 3 R_Blow y13_xs3 y13.Blows ∧ HSub H H77) ?_ ?_
          · rintro H77 f bs gs ⟨b67, b51, y13_v0, y13_v1, y13_v2, y18_v0, y18_v1, y18_v2, y18_v4, y18_xs4, y18_v3, y18_xs3, y13_v4, y13_xs4, y13_v3, y13_xs3, hf2, hf3, hf4, hf7, hf8, hf31, hf33, rfl, rfl, hm78, hm79, hm80, hm81, hm82, hm83, hm84, hm85, hm86, hm87, hs77⟩
            refine (JA.norm (i := 2) hf2 (JA.norm (i := 3) hf3 (JA.norm (i := 4) hf4 (JA.norm (i := 7) hf7 (JA.norm (i := 8) hf8 (JA.norm (i := 31) hf31 (JA.norm (i := 33) hf33 ?_)))))))
            refine JA.many [6] (by kernel_rfl) (by simp) (all_one ⟨_, #[true, true, true, true, true, true, true, false], rfl, (by kernel_rfl), ?_⟩)
            refine JL.oneG 3 rfl (fun ho88 => ?_)
            refine JL.oneG 2 rfl (fun ho89 => ?_)
            refine JL.storeOwn 1 (cs := [y13_v0, .int .i64 y13.Canopy.Frame.Low, .int .i64 y13.Canopy.Frame.High, .int .i64 y13.Canopy.Frame.Ease.Num, .int .i64 y13.Canopy.Frame.Ease.Den, .int .i64 y13.Canopy.Frame.Rod, .int .i64 y13.Canopy.Frame.Case, y13_v1, y13_v2, y13_v3, y13_v4, .int .i64 y13.Wrong]) az_34 rfl rfl rfl (one_cons (SL.one hm78) (one_cons rfl (one_cons rfl (one_cons rfl (one_cons rfl (one_cons rfl (one_cons rfl (one_cons (SL.one hm79) (one_cons (SL.one hm80) (one_cons ho88.1 (one_cons ho89.1 (one_cons rfl one_nil)))))))))))) rfl rfl .none ?_
            refine JA.after hE hs77 (.cons _ (.cons _ (.cons_cons _ (.cons_cons _ (List.nil_sublist _))))) ?_
            refine JA.many [7] (by kernel_rfl) (by simp) (all_one ⟨_, #[true, true, true, true, true, true, true, true], rfl, (by kernel_rfl), ?_⟩)
            refine JL.oneG 1 rfl (fun ho90 => ?_)
            refine JL.oneG 0 rfl (fun ho91 => ?_)
            refine JL.storeOwn 0 (cs := [y18_v0, .int .i64 y18.Canopy.Frame.Low, .int .i64 y18.Canopy.Frame.High, .int .i64 y18.Canopy.Frame.Ease.Num, .int .i64 y18.Canopy.Frame.Ease.Den, .int .i64 y18.Canopy.Frame.Rod, .int .i64 y18.Canopy.Frame.Case, y18_v1, y18_v2, y18_v3, y18_v4, .int .i64 y18.Wrong]) az_34 rfl rfl rfl (one_cons (SL.one hm81) (one_cons rfl (one_cons rfl (one_cons rfl (one_cons rfl (one_cons rfl (one_cons rfl (one_cons (SL.one hm82) (one_cons (SL.one hm83) (one_cons ho90.1 (one_cons ho91.1 (one_cons rfl one_nil)))))))))))) rfl rfl .none ?_
            refine JA.after hE hs77 (.cons _ (.cons _ (.cons_cons _ (.cons_cons _ (List.nil_sublist _))))) ?_
            refine JA.done hQ (by kernel_rfl) ?_
            refine JQ.go ?_
            refine JC.seq ?_
            refine JC.region (by rfl) ?_
            intro hQ
            refine JL.fieldAddr fo_34_2 rfl .none rfl ?_
            refine JL.loadOwn 1 az_32 rfl rfl rfl .none rfl ?_
            refine JL.loadOwn 2 az_36 rfl rfl rfl .none rfl ?_
            refine JL.buildSlice (e := 36) (l := [.int .i64 m.Limit, .int .i64 m.Count]) (by kernel_rfl) .none rfl ?_
            intro b92
            obtain ⟨l93, hl93, hF⟩ := bind_some hF
            refine JL.appO (R := R_Meter) 2 0 (l := y13.Meters) (m := [m]) ap_32 rfl ⟨rfl, rfl⟩ rfl hm86 rfl rfl rfl (CH.cons (cs := [.int .i64 m.Limit, .int .i64 m.Count]) rfl rfl CH.nil) rfl (one_cons rfl (one_cons rfl one_nil)) hl93 .none rfl ?_
            intro v94 xs95 hch96
            refine JL.fieldAddr fo_34_2 rfl .none rfl ?_
            refine JL.oneG 2 rfl (fun ho97 => ?_)
            refine JL.storeOwn 2 (cs := [v94]) az_32 rfl ho97.2 rfl (one_cons ho97.1 one_nil) rfl rfl .none ?_
            refine JL.done hQ ?_
            refine JQ.go ?_
            refine JC.seq ?_
            refine JC.region (by rfl) ?_
            intro hQ
            refine JL.fieldAddr fo_34_3 rfl .none rfl ?_
            refine JL.loadOwn 4 az_3 rfl rfl rfl .none rfl ?_
            refine JL.bin rfl rfl rfl .none rfl ?_
            refine JL.min rfl rfl .none rfl ?_
            refine JL.fieldAddr fo_34_3 rfl .none rfl ?_
            refine JL.storeOwn 1 (cs := [.int .i64 (min 5 (w64 (r.Wrong + 1)))]) az_3 rfl rfl rfl (one_cons rfl one_nil) rfl rfl .none ?_
            refine JL.done hQ ?_
            refine JQ.go ?_
            refine JC.fresh (fun f => f 2 = .int .i64 blow ∧ f 3 = .pointer (some ⟨b1, 0, none⟩) ∧ f 7 = .pointer (some ⟨b51, 0, none⟩) ∧ f 8 = .pointer (some ⟨b67, 0, none⟩)) ⟨rfl, rfl, rfl, rfl⟩ ?_
            rintro f ⟨hf2, hf3, hf7, hf8⟩
            refine (JC.norm (i := 2) hf2 (JC.norm (i := 3) hf3 (JC.norm (i := 7) hf7 (JC.norm (i := 8) hf8 ?_))))
            refine JC.seq ?_
            refine JC.seq ?_
            refine JC.region (by rfl) ?_
            intro hQ
            refine JL.loadOwn 2 az_34 rfl rfl rfl .none rfl ?_
            obtain ⟨y101, hy101, hF⟩ := bind_some hF
            refine JL.callLG2 (R := R_Blow) (S := R_Meter) 3 2 rfl R_Blow_mono hm87 rfl rfl R_Meter_mono hch96 rfl (fun H98 hs98 hg99 hg100 => c_law13_ready n H98 (Run.mk y13.Canopy y13.Blows l93 y13.Wrong) y13_v0 (SL.mono R_Section_mono hs98 hm78) y13_v1 (SL.mono R_Span_mono hs98 hm79) y13_v2 (SL.mono RInt.mono hs98 hm80) y13_v3 hg99 v94 hg100 y101 hy101) rfl en_8 .none rfl ?_
            refine JL.not rfl .none rfl ?_
            refine JL.done hQ ?_
            refine JQ.go ?_
            rcases ite_some hF with ⟨hc102, hF⟩ | ⟨hc102, hF⟩
            · refine JC.cond_t (b := (!y101)) rfl hc102 ?_
              refine JC.seq ?_
              refine JC.region (by rfl) ?_
              intro hQ
              obtain ⟨y103, hy103, hF⟩ := bind_some hF
              refine JL.callS (c_law13_works n H77 y103 hy103) rfl en_9 .none rfl ?_
              refine JL.assign .none rfl ?_
              refine JL.done hQ ?_
              refine JQ.go ?_
              refine JC.ret ?_
              refine JQ.ret_then ?_
              obtain rfl := Option.some.inj hF
              exact JQ.outS rfl (.tmp .nil) rfl
            · refine JC.cond_f (b := (!y101)) rfl hc102 ?_
              refine JC.skip ?_
              refine JQ.go ?_
              refine JC.seq ?_
              refine JC.region (by rfl) ?_
              intro hQ
              refine JL.loadOwn 2 az_34 rfl rfl rfl .none rfl ?_
              refine JL.loadOwn 4 az_34 rfl rfl rfl .none rfl ?_
              refine JL.move .none rfl ?_
              obtain ⟨y107, hy107, hF⟩ := bind_some hF
              refine JL.callLG2 (R := R_Blow) (S := R_Meter) 3 2 rfl R_Blow_mono hm87 rfl rfl R_Meter_mono hch96 rfl (fun H104 hs104 hg105 hg106 => c_law13_inside n H104 (Run.mk y13.Canopy y13.Blows l93 y13.Wrong) y13_v0 (SL.mono R_Section_mono hs104 hm78) y13_v1 (SL.mono R_Span_mono hs104 hm79) y13_v2 (SL.mono RInt.mono hs104 hm80) y13_v3 hg105 v94 hg106 r r_v0 (SL.mono R_Section_mono (HSub.trans hs77 hs104) hr_0) r_v7 (SL.mono R_Span_mono (HSub.trans hs77 hs104) hr_7) r_v8 (SL.mono RInt.mono (HSub.trans hs77 hs104) hr_8) r_v9 (SL.mono R_Blow_mono (HSub.trans hs77 hs104) hr_9) r_v10 (SL.mono R_Meter_mono (HSub.trans hs77 hs104) hr_10) blow y107 hy107) rfl en_11 .none rfl ?_
              refine JL.move .none rfl ?_
              obtain ⟨p112, hp112, hF⟩ := bind_some hF
              refine JL.cut 5 (fun f => f 58 = .bool p112) ?_ ?_
              · intro hJ113
                rcases ite_some hp112 with ⟨hc114, hF⟩ | ⟨hc114, hF⟩
                · skip
                  refine JL.loadOwn 4 az_34 rfl rfl rfl (.some rfl rfl rfl hc114) rfl ?_
                  refine JL.loadOwn 1 az_34 rfl rfl rfl (.some rfl rfl rfl hc114) rfl ?_
                  refine JL.move (.some rfl rfl rfl hc114) rfl ?_
                  obtain ⟨y118, hy118, hF⟩ := bind_some hF
                  refine JL.callLG2 (R := R_Blow) (S := R_Meter) 1 0 rfl R_Blow_mono hm85 rfl rfl R_Meter_mono hm84 rfl (fun H115 hs115 hg116 hg117 => c_law13_inside n H115 r r_v0 (SL.mono R_Section_mono (HSub.trans hs77 hs115) hr_0) r_v7 (SL.mono R_Span_mono (HSub.trans hs77 hs115) hr_7) r_v8 (SL.mono RInt.mono (HSub.trans hs77 hs115) hr_8) r_v9 (SL.mono R_Blow_mono (HSub.trans hs77 hs115) hr_9) r_v10 (SL.mono R_Meter_mono (HSub.trans hs77 hs115) hr_10) (Run.mk y18.Canopy y18.Blows y18.Meters (min 5 (w64 (r.Wrong + 1)))) y18_v0 (SL.mono R_Section_mono hs115 hm81) y18_v1 (SL.mono R_Span_mono hs115 hm82) y18_v2 (SL.mono RInt.mono hs115 hm83) y18_v3 hg116 y18_v4 hg117 blow y118 hy118) rfl en_11 (.some rfl rfl rfl hc114) rfl ?_
                  refine JL.pick_t (b := y107) rfl hc114 .none rfl ?_
                  obtain rfl := Option.some.inj hF
                  exact hJ113 _ (rfl)
                · skip
                  refine JL.skip (.bool rfl rfl rfl hc114) rfl ?_
                  refine JL.skip (.bool rfl rfl rfl hc114) rfl ?_
                  refine JL.skip (.bool rfl rfl rfl hc114) rfl ?_
                  refine JL.skip (.bool rfl rfl rfl hc114) rfl ?_
                  refine JL.pick_f (b := y107) rfl hc114 .none rfl ?_
                  obtain rfl := Option.some.inj hF
                  exact hJ113 _ (rfl)
              · rintro f hf58
                refine (JL.norm (i := 58) hf58 ?_)
                refine JL.move .none rfl ?_
                obtain ⟨p120, hp120, hF⟩ := bind_some hF
                refine JL.cut 2 (fun f => f 61 = .bool p120) ?_ ?_
                · intro hJ121
                  rcases ite_some hp120 with ⟨hc122, hF⟩ | ⟨hc122, hF⟩
                  · skip
                    obtain ⟨y123, hy123, hF⟩ := bind_some hF
                    refine JL.callS (c_law13_works n H77 y123 hy123) rfl en_9 (.some rfl rfl rfl hc122) rfl ?_
                    refine JL.pick_t (b := p112) rfl hc122 .none rfl ?_
                    obtain rfl := Option.some.inj hF
                    exact hJ121 _ (rfl)
                  · skip
                    refine JL.skip (.bool rfl rfl rfl hc122) rfl ?_
                    refine JL.pick_f (b := p112) rfl hc122 .none rfl ?_
                    obtain rfl := Option.some.inj hF
                    exact hJ121 _ (rfl)
                · rintro f hf61
                  refine (JL.norm (i := 61) hf61 ?_)
                  refine JL.assign .none rfl ?_
                  refine JL.done hQ ?_
                  refine JQ.go ?_
                  refine JC.ret ?_
                  obtain rfl := Option.some.inj hF
                  exact JQ.outS rfl (.tmp .nil) rfl
          intro nd76_0
          refine JA.cut 3 #[true, true, true, true, true, false, false, false] (fun H124 f bs gs => ∃ (b51 : Nat) (y13_v0 : Value) (y13_v1 : Value) (y13_v2 : Value) (y18_v0 : Value) (y18_v1 : Value) (y18_v2 : Value) (y18_v4 : Value) (y18_xs4 : List Value) (y18_v3 : Value) (y18_xs3 : List Value) (y13_v4 : Value) (y13_xs4 : List Value) (y13_v3 : Value) (y13_xs3 : List Value), f 2 = .int .i64 blow ∧ f 3 = .pointer (some ⟨b1, 0, none⟩) ∧ f 4 = .pointer (some ⟨b2, 0, none⟩) ∧ f 7 = .pointer (some ⟨b51, 0, none⟩) ∧ f 31 = .agg [y13_v0, .int .i64 y13.Canopy.Frame.Low, .int .i64 y13.Canopy.Frame.High, .int .i64 y13.Canopy.Frame.Ease.Num, .int .i64 y13.Canopy.Frame.Ease.Den, .int .i64 y13.Canopy.Frame.Rod, .int .i64 y13.Canopy.Frame.Case, y13_v1, y13_v2, y13_v3, y13_v4, .int .i64 y13.Wrong].toArray ∧ f 33 = .agg [y18_v0, .int .i64 y18.Canopy.Frame.Low, .int .i64 y18.Canopy.Frame.High, .int .i64 y18.Canopy.Frame.Ease.Num, .int .i64 y18.Canopy.Frame.Ease.Den, .int .i64 y18.Canopy.Frame.Rod, .int .i64 y18.Canopy.Frame.Case, y18_v1, y18_v2, y18_v3, y18_v4, .int .i64 y18.Wrong].toArray ∧ bs = [(b51, .cells [.slice none 0 0, .int .i64 0, .int .i64 0, .int .i64 0, .int .i64 0, .int .i64 0, .int .i64 0, .slice none 0 0, .slice none 0 0, .slice none 0 0, .slice none 0 0, .int .i64 0].toArray 34), (b2, .cells [.int .i64 m.Limit, .int .i64 m.Count].toArray 36), (b1, .cells [r_v0, .int .i64 r.Canopy.Frame.Low, .int .i64 r.Canopy.Frame.High, .int .i64 r.Canopy.Frame.Ease.Num, .int .i64 r.Canopy.Frame.Ease.Den, .int .i64 r.Canopy.Frame.Rod, .int .i64 r.Canopy.Frame.Case, r_v7, r_v8, r_v9, r_v10, .int .i64 r.Wrong].toArray 34)] ∧ gs = [⟨y18_v4, 36, 2, y18.Meters.length, y18_xs4⟩, ⟨y18_v3, 56, 3, y18.Blows.length, y18_xs3⟩, ⟨y13_v4, 36, 2, y13.Meters.length, y13_xs4⟩, ⟨y13_v3, 56, 3, y13.Blows.length, y13_xs3⟩] ∧ SL H124 7 R_Section y13_v0 y13.Canopy.Frame.Sections ∧ SL H124 2 R_Span y13_v1 y13.Canopy.Ribs ∧ SL H124 1 RInt y13_v2 y13.Canopy.Shares ∧ SL H124 7 R_Section y18_v0 y18.Canopy.Frame.Sections ∧ SL H124 2 R_Span y18_v1 y18.Canopy.Ribs ∧ SL H124 1 RInt y18_v2 y18.Canopy.Shares ∧ CH H124 2 R_Meter y18_xs4 y18.Meters ∧ CH H124 3 R_Blow y18_xs3 y18.Blows ∧ CH H124 2 R_Meter y13_xs4 y13.Meters ∧ CH H124 3 R_Blow y13_xs3 y13.Blows ∧ HSub H H124) ?_ ?_
          · rintro H124 f bs gs ⟨b51, y13_v0, y13_v1, y13_v2, y18_v0, y18_v1, y18_v2, y18_v4, y18_xs4, y18_v3, y18_xs3, y13_v4, y13_xs4, y13_v3, y13_xs3, hf2, hf3, hf4, hf7, hf31, hf33, rfl, rfl, hm125, hm126, hm127, hm128, hm129, hm130, hm131, hm132, hm133, hm134, hs124⟩
            refine (JA.norm (i := 2) hf2 (JA.norm (i := 3) hf3 (JA.norm (i := 4) hf4 (JA.norm (i := 7) hf7 (JA.norm (i := 31) hf31 (JA.norm (i := 33) hf33 ?_))))))
            refine JA.many [5] (by kernel_rfl) (by simp) (all_one ⟨_, #[true, true, true, true, true, true, false, false], rfl, (by kernel_rfl), ?_⟩)
            refine JL.alloc ze_34 .none rfl ?_
            intro b135
            refine JA.after hE hs124 (.cons _ (.cons _ (.cons_cons _ (.cons_cons _ (List.nil_sublist _))))) ?_
            exact nd76_0 _ _ _ _ ⟨b135, b51, y13_v0, y13_v1, y13_v2, y18_v0, y18_v1, y18_v2, y18_v4, y18_xs4, y18_v3, y18_xs3, y13_v4, y13_xs4, y13_v3, y13_xs3, rfl, rfl, rfl, rfl, rfl, rfl, rfl, rfl, rfl, hm125, hm126, hm127, hm128, hm129, hm130, hm131, hm132, hm133, hm134, hs124⟩
          intro nd76_1
          refine JA.cut 3 #[true, true, true, true, false, true, false, false] (fun H136 f bs gs => ∃ (b52 : Nat) (y13_v0 : Value) (y13_v1 : Value) (y13_v2 : Value) (y18_v0 : Value) (y18_v1 : Value) (y18_v2 : Value) (y18_v4 : Value) (y18_xs4 : List Value) (y18_v3 : Value) (y18_xs3 : List Value) (y13_v4 : Value) (y13_xs4 : List Value) (y13_v3 : Value) (y13_xs3 : List Value), f 2 = .int .i64 blow ∧ f 3 = .pointer (some ⟨b1, 0, none⟩) ∧ f 4 = .pointer (some ⟨b2, 0, none⟩) ∧ f 8 = .pointer (some ⟨b52, 0, none⟩) ∧ f 31 = .agg [y13_v0, .int .i64 y13.Canopy.Frame.Low, .int .i64 y13.Canopy.Frame.High, .int .i64 y13.Canopy.Frame.Ease.Num, .int .i64 y13.Canopy.Frame.Ease.Den, .int .i64 y13.Canopy.Frame.Rod, .int .i64 y13.Canopy.Frame.Case, y13_v1, y13_v2, y13_v3, y13_v4, .int .i64 y13.Wrong].toArray ∧ f 33 = .agg [y18_v0, .int .i64 y18.Canopy.Frame.Low, .int .i64 y18.Canopy.Frame.High, .int .i64 y18.Canopy.Frame.Ease.Num, .int .i64 y18.Canopy.Frame.Ease.Den, .int .i64 y18.Canopy.Frame.Rod, .int .i64 y18.Canopy.Frame.Case, y18_v1, y18_v2, y18_v3, y18_v4, .int .i64 y18.Wrong].toArray ∧ bs = [(b52, .cells [.slice none 0 0, .int .i64 0, .int .i64 0, .int .i64 0, .int .i64 0, .int .i64 0, .int .i64 0, .slice none 0 0, .slice none 0 0, .slice none 0 0, .slice none 0 0, .int .i64 0].toArray 34), (b2, .cells [.int .i64 m.Limit, .int .i64 m.Count].toArray 36), (b1, .cells [r_v0, .int .i64 r.Canopy.Frame.Low, .int .i64 r.Canopy.Frame.High, .int .i64 r.Canopy.Frame.Ease.Num, .int .i64 r.Canopy.Frame.Ease.Den, .int .i64 r.Canopy.Frame.Rod, .int .i64 r.Canopy.Frame.Case, r_v7, r_v8, r_v9, r_v10, .int .i64 r.Wrong].toArray 34)] ∧ gs = [⟨y18_v4, 36, 2, y18.Meters.length, y18_xs4⟩, ⟨y18_v3, 56, 3, y18.Blows.length, y18_xs3⟩, ⟨y13_v4, 36, 2, y13.Meters.length, y13_xs4⟩, ⟨y13_v3, 56, 3, y13.Blows.length, y13_xs3⟩] ∧ SL H136 7 R_Section y13_v0 y13.Canopy.Frame.Sections ∧ SL H136 2 R_Span y13_v1 y13.Canopy.Ribs ∧ SL H136 1 RInt y13_v2 y13.Canopy.Shares ∧ SL H136 7 R_Section y18_v0 y18.Canopy.Frame.Sections ∧ SL H136 2 R_Span y18_v1 y18.Canopy.Ribs ∧ SL H136 1 RInt y18_v2 y18.Canopy.Shares ∧ CH H136 2 R_Meter y18_xs4 y18.Meters ∧ CH H136 3 R_Blow y18_xs3 y18.Blows ∧ CH H136 2 R_Meter y13_xs4 y13.Meters ∧ CH H136 3 R_Blow y13_xs3 y13.Blows ∧ HSub H H136) ?_ ?_
          · rintro H136 f bs gs ⟨b52, y13_v0, y13_v1, y13_v2, y18_v0, y18_v1, y18_v2, y18_v4, y18_xs4, y18_v3, y18_xs3, y13_v4, y13_xs4, y13_v3, y13_xs3, hf2, hf3, hf4, hf8, hf31, hf33, rfl, rfl, hm137, hm138, hm139, hm140, hm141, hm142, hm143, hm144, hm145, hm146, hs136⟩
            refine (JA.norm (i := 2) hf2 (JA.norm (i := 3) hf3 (JA.norm (i := 4) hf4 (JA.norm (i := 8) hf8 (JA.norm (i := 31) hf31 (JA.norm (i := 33) hf33 ?_))))))
            refine JA.many [4] (by kernel_rfl) (by simp) (all_one ⟨_, #[true, true, true, true, true, true, false, false], rfl, (by kernel_rfl), ?_⟩)
            refine JL.alloc ze_34 .none rfl ?_
            intro b147
            refine JA.after hE hs136 (.cons _ (.cons _ (.cons_cons _ (.cons_cons _ (List.nil_sublist _))))) ?_
            refine JA.perm (swapAt_perm 0 _) ?_
            exact nd76_0 _ _ _ _ ⟨b52, b147, y13_v0, y13_v1, y13_v2, y18_v0, y18_v1, y18_v2, y18_v4, y18_xs4, y18_v3, y18_xs3, y13_v4, y13_xs4, y13_v3, y13_xs3, rfl, rfl, rfl, rfl, rfl, rfl, rfl, rfl, rfl, hm137, hm138, hm139, hm140, hm141, hm142, hm143, hm144, hm145, hm146, hs136⟩
          intro nd76_2
          refine JA.cut 3 #[true, true, true, false, true, true, false, false] (fun H148 f bs gs => ∃ (b57 : Nat) (b39 : Nat) (y13_v0 : Value) (y13_v1 : Value) (y13_v2 : Value) (y13_v4 : Value) (y13_xs4 : List Value) (y13_v3 : Value) (y13_xs3 : List Value), f 2 = .int .i64 blow ∧ f 3 = .pointer (some ⟨b1, 0, none⟩) ∧ f 4 = .pointer (some ⟨b2, 0, none⟩) ∧ f 7 = .pointer (some ⟨b39, 0, none⟩) ∧ f 8 = .pointer (some ⟨b57, 0, none⟩) ∧ f 31 = .agg [y13_v0, .int .i64 y13.Canopy.Frame.Low, .int .i64 y13.Canopy.Frame.High, .int .i64 y13.Canopy.Frame.Ease.Num, .int .i64 y13.Canopy.Frame.Ease.Den, .int .i64 y13.Canopy.Frame.Rod, .int .i64 y13.Canopy.Frame.Case, y13_v1, y13_v2, y13_v3, y13_v4, .int .i64 y13.Wrong].toArray ∧ f 32 = .agg [r_v0, .int .i64 r.Canopy.Frame.Low, .int .i64 r.Canopy.Frame.High, .int .i64 r.Canopy.Frame.Ease.Num, .int .i64 r.Canopy.Frame.Ease.Den, .int .i64 r.Canopy.Frame.Rod, .int .i64 r.Canopy.Frame.Case, r_v7, r_v8, r_v9, r_v10, .int .i64 r.Wrong].toArray ∧ bs = [(b57, .cells [.slice none 0 0, .int .i64 0, .int .i64 0, .int .i64 0, .int .i64 0, .int .i64 0, .int .i64 0, .slice none 0 0, .slice none 0 0, .slice none 0 0, .slice none 0 0, .int .i64 0].toArray 34), (b39, .cells [.slice none 0 0, .int .i64 0, .int .i64 0, .int .i64 0, .int .i64 0, .int .i64 0, .int .i64 0, .slice none 0 0, .slice none 0 0, .slice none 0 0, .slice none 0 0, .int .i64 0].toArray 34), (b2, .cells [.int .i64 m.Limit, .int .i64 m.Count].toArray 36), (b1, .cells [r_v0, .int .i64 r.Canopy.Frame.Low, .int .i64 r.Canopy.Frame.High, .int .i64 r.Canopy.Frame.Ease.Num, .int .i64 r.Canopy.Frame.Ease.Den, .int .i64 r.Canopy.Frame.Rod, .int .i64 r.Canopy.Frame.Case, r_v7, r_v8, r_v9, r_v10, .int .i64 r.Wrong].toArray 34)] ∧ gs = [⟨y13_v4, 36, 2, y13.Meters.length, y13_xs4⟩, ⟨y13_v3, 56, 3, y13.Blows.length, y13_xs3⟩] ∧ SL H148 7 R_Section y13_v0 y13.Canopy.Frame.Sections ∧ SL H148 2 R_Span y13_v1 y13.Canopy.Ribs ∧ SL H148 1 RInt y13_v2 y13.Canopy.Shares ∧ CH H148 2 R_Meter y13_xs4 y13.Meters ∧ CH H148 3 R_Blow y13_xs3 y13.Blows ∧ HSub H H148) ?_ ?_
          · rintro H148 f bs gs ⟨b57, b39, y13_v0, y13_v1, y13_v2, y13_v4, y13_xs4, y13_v3, y13_xs3, hf2, hf3, hf4, hf7, hf8, hf31, hf32, rfl, rfl, hm149, hm150, hm151, hm152, hm153, hs148⟩
            refine (JA.norm (i := 2) hf2 (JA.norm (i := 3) hf3 (JA.norm (i := 4) hf4 (JA.norm (i := 7) hf7 (JA.norm (i := 8) hf8 (JA.norm (i := 31) hf31 (JA.norm (i := 32) hf32 ?_)))))))
            refine JA.many [3] (by kernel_rfl) (by simp) (all_one ⟨_, #[true, true, true, true, true, true, false, false], rfl, (by kernel_rfl), ?_⟩)
            refine JL.callXC (x_ref13_Copy n H148 r r_v0 (SL.mono R_Section_mono hs148 hr_0) r_v7 (SL.mono R_Span_mono hs148 hr_7) r_v8 (SL.mono RInt.mono hs148 hr_8) r_v9 (SL.mono R_Blow_mono hs148 hr_9) r_v10 (SL.mono R_Meter_mono hs148 hr_10) y18 hy18) rfl en_10 .none rfl ?_
            rintro H154 vv155 _ hs154 ⟨y18_v0, y18_v1, y18_v2, y18_v3, y18_xs3, y18_v4, y18_xs4, rfl, rfl, hy18_0, hy18_1, hy18_2, hy18_3, hy18_4⟩
            refine JA.after hE (HSub.trans hs148 hs154) (.cons _ (.cons _ (.cons_cons _ (.cons_cons _ (List.nil_sublist _))))) ?_
            exact nd76_0 _ _ _ _ ⟨b57, b39, y13_v0, y13_v1, y13_v2, y18_v0, y18_v1, y18_v2, y18_v4, y18_xs4, y18_v3, y18_xs3, y13_v4, y13_xs4, y13_v3, y13_xs3, rfl, rfl, rfl, rfl, rfl, rfl, rfl, rfl, rfl, (SL.mono R_Section_mono hs154 hm149), (SL.mono R_Span_mono hs154 hm150), (SL.mono RInt.mono hs154 hm151), hy18_0, hy18_1, hy18_2, hy18_4, hy18_3, (CH.mono R_Meter_mono hs154 hm152), (CH.mono R_Blow_mono hs154 hm153), (HSub.trans hs148 hs154)⟩
          intro nd76_3
          refine JA.cut 4 #[true, true, true, false, true, false, false, false] (fun H158 f bs gs => ∃ (b39 : Nat) (y13_v0 : Value) (y13_v1 : Value) (y13_v2 : Value) (y13_v4 : Value) (y13_xs4 : List Value) (y13_v3 : Value) (y13_xs3 : List Value), f 2 = .int .i64 blow ∧ f 3 = .pointer (some ⟨b1, 0, none⟩) ∧ f 4 = .pointer (some ⟨b2, 0, none⟩) ∧ f 7 = .pointer (some ⟨b39, 0, none⟩) ∧ f 31 = .agg [y13_v0, .int .i64 y13.Canopy.Frame.Low, .int .i64 y13.Canopy.Frame.High, .int .i64 y13.Canopy.Frame.Ease.Num, .int .i64 y13.Canopy.Frame.Ease.Den, .int .i64 y13.Canopy.Frame.Rod, .int .i64 y13.Canopy.Frame.Case, y13_v1, y13_v2, y13_v3, y13_v4, .int .i64 y13.Wrong].toArray ∧ f 32 = .agg [r_v0, .int .i64 r.Canopy.Frame.Low, .int .i64 r.Canopy.Frame.High, .int .i64 r.Canopy.Frame.Ease.Num, .int .i64 r.Canopy.Frame.Ease.Den, .int .i64 r.Canopy.Frame.Rod, .int .i64 r.Canopy.Frame.Case, r_v7, r_v8, r_v9, r_v10, .int .i64 r.Wrong].toArray ∧ bs = [(b39, .cells [.slice none 0 0, .int .i64 0, .int .i64 0, .int .i64 0, .int .i64 0, .int .i64 0, .int .i64 0, .slice none 0 0, .slice none 0 0, .slice none 0 0, .slice none 0 0, .int .i64 0].toArray 34), (b2, .cells [.int .i64 m.Limit, .int .i64 m.Count].toArray 36), (b1, .cells [r_v0, .int .i64 r.Canopy.Frame.Low, .int .i64 r.Canopy.Frame.High, .int .i64 r.Canopy.Frame.Ease.Num, .int .i64 r.Canopy.Frame.Ease.Den, .int .i64 r.Canopy.Frame.Rod, .int .i64 r.Canopy.Frame.Case, r_v7, r_v8, r_v9, r_v10, .int .i64 r.Wrong].toArray 34)] ∧ gs = [⟨y13_v4, 36, 2, y13.Meters.length, y13_xs4⟩, ⟨y13_v3, 56, 3, y13.Blows.length, y13_xs3⟩] ∧ SL H158 7 R_Section y13_v0 y13.Canopy.Frame.Sections ∧ SL H158 2 R_Span y13_v1 y13.Canopy.Ribs ∧ SL H158 1 RInt y13_v2 y13.Canopy.Shares ∧ CH H158 2 R_Meter y13_xs4 y13.Meters ∧ CH H158 3 R_Blow y13_xs3 y13.Blows ∧ HSub H H158) ?_ ?_
          · rintro H158 f bs gs ⟨b39, y13_v0, y13_v1, y13_v2, y13_v4, y13_xs4, y13_v3, y13_xs3, hf2, hf3, hf4, hf7, hf31, hf32, rfl, rfl, hm159, hm160, hm161, hm162, hm163, hs158⟩
            refine (JA.norm (i := 2) hf2 (JA.norm (i := 3) hf3 (JA.norm (i := 4) hf4 (JA.norm (i := 7) hf7 (JA.norm (i := 31) hf31 (JA.norm (i := 32) hf32 ?_))))))
            refine JA.many [3, 5] (by kernel_rfl) (by simp) (all_cons ⟨_, #[true, true, true, true, true, false, false, false], rfl, (by kernel_rfl), ?_⟩ (all_one ⟨_, #[true, true, true, false, true, true, false, false], rfl, (by kernel_rfl), ?_⟩))
            · skip
              refine JL.callXC (x_ref13_Copy n H158 r r_v0 (SL.mono R_Section_mono hs158 hr_0) r_v7 (SL.mono R_Span_mono hs158 hr_7) r_v8 (SL.mono RInt.mono hs158 hr_8) r_v9 (SL.mono R_Blow_mono hs158 hr_9) r_v10 (SL.mono R_Meter_mono hs158 hr_10) y18 hy18) rfl en_10 .none rfl ?_
              rintro H164 vv165 _ hs164 ⟨y18_v0, y18_v1, y18_v2, y18_v3, y18_xs3, y18_v4, y18_xs4, rfl, rfl, hy18_0, hy18_1, hy18_2, hy18_3, hy18_4⟩
              refine JA.after hE (HSub.trans hs158 hs164) (.cons _ (.cons_cons _ (.cons_cons _ (List.nil_sublist _)))) ?_
              exact nd76_1 _ _ _ _ ⟨b39, y13_v0, y13_v1, y13_v2, y18_v0, y18_v1, y18_v2, y18_v4, y18_xs4, y18_v3, y18_xs3, y13_v4, y13_xs4, y13_v3, y13_xs3, rfl, rfl, rfl, rfl, rfl, rfl, rfl, rfl, (SL.mono R_Section_mono hs164 hm159), (SL.mono R_Span_mono hs164 hm160), (SL.mono RInt.mono hs164 hm161), hy18_0, hy18_1, hy18_2, hy18_4, hy18_3, (CH.mono R_Meter_mono hs164 hm162), (CH.mono R_Blow_mono hs164 hm163), (HSub.trans hs158 hs164)⟩
            · skip
              refine JL.alloc ze_34 .none rfl ?_
              intro b168
              refine JA.after hE hs158 (.cons _ (.cons _ (.cons_cons _ (.cons_cons _ (List.nil_sublist _))))) ?_
              exact nd76_3 _ _ _ _ ⟨b168, b39, y13_v0, y13_v1, y13_v2, y13_v4, y13_xs4, y13_v3, y13_xs3, rfl, rfl, rfl, rfl, rfl, rfl, rfl, rfl, rfl, hm159, hm160, hm161, hm162, hm163, hs158⟩
          intro nd76_4
          refine JA.cut 4 #[true, true, true, false, false, true, false, false] (fun H169 f bs gs => ∃ (b40 : Nat) (y13_v0 : Value) (y13_v1 : Value) (y13_v2 : Value) (y13_v4 : Value) (y13_xs4 : List Value) (y13_v3 : Value) (y13_xs3 : List Value), f 2 = .int .i64 blow ∧ f 3 = .pointer (some ⟨b1, 0, none⟩) ∧ f 4 = .pointer (some ⟨b2, 0, none⟩) ∧ f 8 = .pointer (some ⟨b40, 0, none⟩) ∧ f 31 = .agg [y13_v0, .int .i64 y13.Canopy.Frame.Low, .int .i64 y13.Canopy.Frame.High, .int .i64 y13.Canopy.Frame.Ease.Num, .int .i64 y13.Canopy.Frame.Ease.Den, .int .i64 y13.Canopy.Frame.Rod, .int .i64 y13.Canopy.Frame.Case, y13_v1, y13_v2, y13_v3, y13_v4, .int .i64 y13.Wrong].toArray ∧ f 32 = .agg [r_v0, .int .i64 r.Canopy.Frame.Low, .int .i64 r.Canopy.Frame.High, .int .i64 r.Canopy.Frame.Ease.Num, .int .i64 r.Canopy.Frame.Ease.Den, .int .i64 r.Canopy.Frame.Rod, .int .i64 r.Canopy.Frame.Case, r_v7, r_v8, r_v9, r_v10, .int .i64 r.Wrong].toArray ∧ bs = [(b40, .cells [.slice none 0 0, .int .i64 0, .int .i64 0, .int .i64 0, .int .i64 0, .int .i64 0, .int .i64 0, .slice none 0 0, .slice none 0 0, .slice none 0 0, .slice none 0 0, .int .i64 0].toArray 34), (b2, .cells [.int .i64 m.Limit, .int .i64 m.Count].toArray 36), (b1, .cells [r_v0, .int .i64 r.Canopy.Frame.Low, .int .i64 r.Canopy.Frame.High, .int .i64 r.Canopy.Frame.Ease.Num, .int .i64 r.Canopy.Frame.Ease.Den, .int .i64 r.Canopy.Frame.Rod, .int .i64 r.Canopy.Frame.Case, r_v7, r_v8, r_v9, r_v10, .int .i64 r.Wrong].toArray 34)] ∧ gs = [⟨y13_v4, 36, 2, y13.Meters.length, y13_xs4⟩, ⟨y13_v3, 56, 3, y13.Blows.length, y13_xs3⟩] ∧ SL H169 7 R_Section y13_v0 y13.Canopy.Frame.Sections ∧ SL H169 2 R_Span y13_v1 y13.Canopy.Ribs ∧ SL H169 1 RInt y13_v2 y13.Canopy.Shares ∧ CH H169 2 R_Meter y13_xs4 y13.Meters ∧ CH H169 3 R_Blow y13_xs3 y13.Blows ∧ HSub H H169) ?_ ?_
          · rintro H169 f bs gs ⟨b40, y13_v0, y13_v1, y13_v2, y13_v4, y13_xs4, y13_v3, y13_xs3, hf2, hf3, hf4, hf8, hf31, hf32, rfl, rfl, hm170, hm171, hm172, hm173, hm174, hs169⟩
            refine (JA.norm (i := 2) hf2 (JA.norm (i := 3) hf3 (JA.norm (i := 4) hf4 (JA.norm (i := 8) hf8 (JA.norm (i := 31) hf31 (JA.norm (i := 32) hf32 ?_))))))
            refine JA.many [3, 4] (by kernel_rfl) (by simp) (all_cons ⟨_, #[true, true, true, true, false, true, false, false], rfl, (by kernel_rfl), ?_⟩ (all_one ⟨_, #[true, true, true, false, true, true, false, false], rfl, (by kernel_rfl), ?_⟩))
            · skip
              refine JL.callXC (x_ref13_Copy n H169 r r_v0 (SL.mono R_Section_mono hs169 hr_0) r_v7 (SL.mono R_Span_mono hs169 hr_7) r_v8 (SL.mono RInt.mono hs169 hr_8) r_v9 (SL.mono R_Blow_mono hs169 hr_9) r_v10 (SL.mono R_Meter_mono hs169 hr_10) y18 hy18) rfl en_10 .none rfl ?_
              rintro H175 vv176 _ hs175 ⟨y18_v0, y18_v1, y18_v2, y18_v3, y18_xs3, y18_v4, y18_xs4, rfl, rfl, hy18_0, hy18_1, hy18_2, hy18_3, hy18_4⟩
              refine JA.after hE (HSub.trans hs169 hs175) (.cons _ (.cons_cons _ (.cons_cons _ (List.nil_sublist _)))) ?_
              exact nd76_2 _ _ _ _ ⟨b40, y13_v0, y13_v1, y13_v2, y18_v0, y18_v1, y18_v2, y18_v4, y18_xs4, y18_v3, y18_xs3, y13_v4, y13_xs4, y13_v3, y13_xs3, rfl, rfl, rfl, rfl, rfl, rfl, rfl, rfl, (SL.mono R_Section_mono hs175 hm170), (SL.mono R_Span_mono hs175 hm171), (SL.mono RInt.mono hs175 hm172), hy18_0, hy18_1, hy18_2, hy18_4, hy18_3, (CH.mono R_Meter_mono hs175 hm173), (CH.mono R_Blow_mono hs175 hm174), (HSub.trans hs169 hs175)⟩
            · skip
              refine JL.alloc ze_34 .none rfl ?_
              intro b179
              refine JA.after hE hs169 (.cons _ (.cons _ (.cons_cons _ (.cons_cons _ (List.nil_sublist _))))) ?_
              refine JA.perm (swapAt_perm 0 _) ?_
              exact nd76_3 _ _ _ _ ⟨b40, b179, y13_v0, y13_v1, y13_v2, y13_v4, y13_xs4, y13_v3, y13_xs3, rfl, rfl, rfl, rfl, rfl, rfl, rfl, rfl, rfl, hm170, hm171, hm172, hm173, hm174, hs169⟩
          intro nd76_5
          refine JA.cut 4 #[true, false, true, false, true, true, false, false] (fun H180 f bs gs => ∃ (b45 : Nat) (b33 : Nat), f 2 = .int .i64 blow ∧ f 3 = .pointer (some ⟨b1, 0, none⟩) ∧ f 4 = .pointer (some ⟨b2, 0, none⟩) ∧ f 7 = .pointer (some ⟨b33, 0, none⟩) ∧ f 8 = .pointer (some ⟨b45, 0, none⟩) ∧ f 30 = .agg [r_v0, .int .i64 r.Canopy.Frame.Low, .int .i64 r.Canopy.Frame.High, .int .i64 r.Canopy.Frame.Ease.Num, .int .i64 r.Canopy.Frame.Ease.Den, .int .i64 r.Canopy.Frame.Rod, .int .i64 r.Canopy.Frame.Case, r_v7, r_v8, r_v9, r_v10, .int .i64 r.Wrong].toArray ∧ f 32 = .agg [r_v0, .int .i64 r.Canopy.Frame.Low, .int .i64 r.Canopy.Frame.High, .int .i64 r.Canopy.Frame.Ease.Num, .int .i64 r.Canopy.Frame.Ease.Den, .int .i64 r.Canopy.Frame.Rod, .int .i64 r.Canopy.Frame.Case, r_v7, r_v8, r_v9, r_v10, .int .i64 r.Wrong].toArray ∧ bs = [(b45, .cells [.slice none 0 0, .int .i64 0, .int .i64 0, .int .i64 0, .int .i64 0, .int .i64 0, .int .i64 0, .slice none 0 0, .slice none 0 0, .slice none 0 0, .slice none 0 0, .int .i64 0].toArray 34), (b33, .cells [.slice none 0 0, .int .i64 0, .int .i64 0, .int .i64 0, .int .i64 0, .int .i64 0, .int .i64 0, .slice none 0 0, .slice none 0 0, .slice none 0 0, .slice none 0 0, .int .i64 0].toArray 34), (b2, .cells [.int .i64 m.Limit, .int .i64 m.Count].toArray 36), (b1, .cells [r_v0, .int .i64 r.Canopy.Frame.Low, .int .i64 r.Canopy.Frame.High, .int .i64 r.Canopy.Frame.Ease.Num, .int .i64 r.Canopy.Frame.Ease.Den, .int .i64 r.Canopy.Frame.Rod, .int .i64 r.Canopy.Frame.Case, r_v7, r_v8, r_v9, r_v10, .int .i64 r.Wrong].toArray 34)] ∧ gs = [] ∧ HSub H H180) ?_ ?_
          · rintro H180 f bs gs ⟨b45, b33, hf2, hf3, hf4, hf7, hf8, hf30, hf32, rfl, rfl, hs180⟩
            refine (JA.norm (i := 2) hf2 (JA.norm (i := 3) hf3 (JA.norm (i := 4) hf4 (JA.norm (i := 7) hf7 (JA.norm (i := 8) hf8 (JA.norm (i := 30) hf30 (JA.norm (i := 32) hf32 ?_)))))))
            refine JA.many [1] (by kernel_rfl) (by simp) (all_one ⟨_, #[true, true, true, false, true, true, false, false], rfl, (by kernel_rfl), ?_⟩)
            refine JL.callXC (x_ref13_Copy n H180 r r_v0 (SL.mono R_Section_mono hs180 hr_0) r_v7 (SL.mono R_Span_mono hs180 hr_7) r_v8 (SL.mono RInt.mono hs180 hr_8) r_v9 (SL.mono R_Blow_mono hs180 hr_9) r_v10 (SL.mono R_Meter_mono hs180 hr_10) y13 hy13) rfl en_10 .none rfl ?_
            rintro H181 vv182 _ hs181 ⟨y13_v0, y13_v1, y13_v2, y13_v3, y13_xs3, y13_v4, y13_xs4, rfl, rfl, hy13_0, hy13_1, hy13_2, hy13_3, hy13_4⟩
            refine JA.after hE (HSub.trans hs180 hs181) (.cons _ (.cons _ (.cons_cons _ (.cons_cons _ (List.nil_sublist _))))) ?_
            exact nd76_3 _ _ _ _ ⟨b45, b33, y13_v0, y13_v1, y13_v2, y13_v4, y13_xs4, y13_v3, y13_xs3, rfl, rfl, rfl, rfl, rfl, rfl, rfl, rfl, rfl, hy13_0, hy13_1, hy13_2, hy13_4, hy13_3, (HSub.trans hs180 hs181)⟩
          intro nd76_6
          refine JA.take 0 (listed' := #[true, false, false, false, false, false, false, false]) hQ rfl (by kernel_rfl) (by kernel_rfl) (by kernel_rfl) (by kernel_rfl) (by kernel_rfl) hE (HSub.refl _) (.cons_cons _ (.cons_cons _ (List.nil_sublist _))) ?_
          refine JL.loadOwn 1 az_34 rfl rfl rfl .none rfl ?_
          refine JA.cont ?_
          refine JA.take 2 (listed' := #[true, false, true, false, false, false, false, false]) hQ rfl (by kernel_rfl) (by kernel_rfl) (by kernel_rfl) (by kernel_rfl) (by kernel_rfl) hE (HSub.refl _) (.cons_cons _ (.cons_cons _ (List.nil_sublist _))) ?_
          refine JL.loadOwn 1 az_34 rfl rfl rfl .none rfl ?_
          refine JA.cont ?_
          refine JA.many [1, 4, 5] (by kernel_rfl) (by simp) (all_cons ⟨_, #[true, true, true, false, false, false, false, false], rfl, (by kernel_rfl), ?_⟩ (all_cons ⟨_, #[true, false, true, false, true, false, false, false], rfl, (by kernel_rfl), ?_⟩ (all_one ⟨_, #[true, false, true, false, false, true, false, false], rfl, (by kernel_rfl), ?_⟩)))
          · skip
            refine JL.callXC (x_ref13_Copy n H r r_v0 hr_0 r_v7 hr_7 r_v8 hr_8 r_v9 hr_9 r_v10 hr_10 y13 hy13) rfl en_10 .none rfl ?_
            rintro H185 vv186 _ hs185 ⟨y13_v0, y13_v1, y13_v2, y13_v3, y13_xs3, y13_v4, y13_xs4, rfl, rfl, hy13_0, hy13_1, hy13_2, hy13_3, hy13_4⟩
            refine JA.after hE hs185 (.cons_cons _ (.cons_cons _ (List.nil_sublist _))) ?_
            refine JA.many [3, 4, 5] (by kernel_rfl) (by simp) (all_cons ⟨_, #[true, true, true, true, false, false, false, false], rfl, (by kernel_rfl), ?_⟩ (all_cons ⟨_, #[true, true, true, false, true, false, false, false], rfl, (by kernel_rfl), ?_⟩ (all_one ⟨_, #[true, true, true, false, false, true, false, false], rfl, (by kernel_rfl), ?_⟩)))
            · skip
              refine JL.callXC (x_ref13_Copy n H185 r r_v0 (SL.mono R_Section_mono hs185 hr_0) r_v7 (SL.mono R_Span_mono hs185 hr_7) r_v8 (SL.mono RInt.mono hs185 hr_8) r_v9 (SL.mono R_Blow_mono hs185 hr_9) r_v10 (SL.mono R_Meter_mono hs185 hr_10) y18 hy18) rfl en_10 .none rfl ?_
              rintro H189 vv190 _ hs189 ⟨y18_v0, y18_v1, y18_v2, y18_v3, y18_xs3, y18_v4, y18_xs4, rfl, rfl, hy18_0, hy18_1, hy18_2, hy18_3, hy18_4⟩
              refine JA.after hE (HSub.trans hs185 hs189) (.cons_cons _ (.cons_cons _ (List.nil_sublist _))) ?_
              refine JA.many [4, 5] (by kernel_rfl) (by simp) (all_cons ⟨_, #[true, true, true, true, true, false, false, false], rfl, (by kernel_rfl), ?_⟩ (all_one ⟨_, #[true, true, true, true, false, true, false, false], rfl, (by kernel_rfl), ?_⟩))
              · skip
                refine JL.alloc ze_34 .none rfl ?_
                intro b193
                refine JA.after hE (HSub.trans hs185 hs189) (.cons _ (.cons_cons _ (.cons_cons _ (List.nil_sublist _)))) ?_
                exact nd76_1 _ _ _ _ ⟨b193, y13_v0, y13_v1, y13_v2, y18_v0, y18_v1, y18_v2, y18_v4, y18_xs4, y18_v3, y18_xs3, y13_v4, y13_xs4, y13_v3, y13_xs3, rfl, rfl, rfl, rfl, rfl, rfl, rfl, rfl, (SL.mono R_Section_mono hs189 hy13_0), (SL.mono R_Span_mono hs189 hy13_1), (SL.mono RInt.mono hs189 hy13_2), hy18_0, hy18_1, hy18_2, hy18_4, hy18_3, (CH.mono R_Meter_mono hs189 hy13_4), (CH.mono R_Blow_mono hs189 hy13_3), (HSub.trans hs185 hs189)⟩
              · skip
                refine JL.alloc ze_34 .none rfl ?_
                intro b194
                refine JA.after hE (HSub.trans hs185 hs189) (.cons _ (.cons_cons _ (.cons_cons _ (List.nil_sublist _)))) ?_
                exact nd76_2 _ _ _ _ ⟨b194, y13_v0, y13_v1, y13_v2, y18_v0, y18_v1, y18_v2, y18_v4, y18_xs4, y18_v3, y18_xs3, y13_v4, y13_xs4, y13_v3, y13_xs3, rfl, rfl, rfl, rfl, rfl, rfl, rfl, rfl, (SL.mono R_Section_mono hs189 hy13_0), (SL.mono R_Span_mono hs189 hy13_1), (SL.mono RInt.mono hs189 hy13_2), hy18_0, hy18_1, hy18_2, hy18_4, hy18_3, (CH.mono R_Meter_mono hs189 hy13_4), (CH.mono R_Blow_mono hs189 hy13_3), (HSub.trans hs185 hs189)⟩
            · skip
              refine JL.alloc ze_34 .none rfl ?_
              intro b195
              refine JA.after hE hs185 (.cons _ (.cons_cons _ (.cons_cons _ (List.nil_sublist _)))) ?_
              exact nd76_4 _ _ _ _ ⟨b195, y13_v0, y13_v1, y13_v2, y13_v4, y13_xs4, y13_v3, y13_xs3, rfl, rfl, rfl, rfl, rfl, rfl, rfl, rfl, hy13_0, hy13_1, hy13_2, hy13_4, hy13_3, hs185⟩
            · skip
              refine JL.alloc ze_34 .none rfl ?_
              intro b196
              refine JA.after hE hs185 (.cons _ (.cons_cons _ (.cons_cons _ (List.nil_sublist _)))) ?_
              exact nd76_5 _ _ _ _ ⟨b196, y13_v0, y13_v1, y13_v2, y13_v4, y13_xs4, y13_v3, y13_xs3, rfl, rfl, rfl, rfl, rfl, rfl, rfl, rfl, hy13_0, hy13_1, hy13_2, hy13_4, hy13_3, hs185⟩
          · skip
            refine JL.alloc ze_34 .none rfl ?_
            intro b197
            refine JA.after hE (HSub.refl _) (.cons _ (.cons_cons _ (.cons_cons _ (List.nil_sublist _)))) ?_
            refine JA.many [1, 5] (by kernel_rfl) (by simp) (all_cons ⟨_, #[true, true, true, false, true, false, false, false], rfl, (by kernel_rfl), ?_⟩ (all_one ⟨_, #[true, false, true, false, true, true, false, false], rfl, (by kernel_rfl), ?_⟩))
            · skip
              refine JL.callXC (x_ref13_Copy n H r r_v0 hr_0 r_v7 hr_7 r_v8 hr_8 r_v9 hr_9 r_v10 hr_10 y13 hy13) rfl en_10 .none rfl ?_
              rintro H198 vv199 _ hs198 ⟨y13_v0, y13_v1, y13_v2, y13_v3, y13_xs3, y13_v4, y13_xs4, rfl, rfl, hy13_0, hy13_1, hy13_2, hy13_3, hy13_4⟩
              refine JA.after hE hs198 (.cons _ (.cons_cons _ (.cons_cons _ (List.nil_sublist _)))) ?_
              exact nd76_4 _ _ _ _ ⟨b197, y13_v0, y13_v1, y13_v2, y13_v4, y13_xs4, y13_v3, y13_xs3, rfl, rfl, rfl, rfl, rfl, rfl, rfl, rfl, hy13_0, hy13_1, hy13_2, hy13_4, hy13_3, hs198⟩
            · skip
              refine JL.alloc ze_34 .none rfl ?_
              intro b202
              refine JA.after hE (HSub.refl _) (.cons _ (.cons _ (.cons_cons _ (.cons_cons _ (List.nil_sublist _))))) ?_
              exact nd76_6 _ _ _ _ ⟨b202, b197, rfl, rfl, rfl, rfl, rfl, rfl, rfl, rfl, rfl, (HSub.refl _)⟩
          · skip
            refine JL.alloc ze_34 .none rfl ?_
            intro b203
            refine JA.after hE (HSub.refl _) (.cons _ (.cons_cons _ (.cons_cons _ (List.nil_sublist _)))) ?_
            refine JA.many [1, 4] (by kernel_rfl) (by simp) (all_cons ⟨_, #[true, true, true, false, false, true, false, false], rfl, (by kernel_rfl), ?_⟩ (all_one ⟨_, #[true, false, true, false, true, true, false, false], rfl, (by kernel_rfl), ?_⟩))
            · skip
              refine JL.callXC (x_ref13_Copy n H r r_v0 hr_0 r_v7 hr_7 r_v8 hr_8 r_v9 hr_9 r_v10 hr_10 y13 hy13) rfl en_10 .none rfl ?_
              rintro H204 vv205 _ hs204 ⟨y13_v0, y13_v1, y13_v2, y13_v3, y13_xs3, y13_v4, y13_xs4, rfl, rfl, hy13_0, hy13_1, hy13_2, hy13_3, hy13_4⟩
              refine JA.after hE hs204 (.cons _ (.cons_cons _ (.cons_cons _ (List.nil_sublist _)))) ?_
              exact nd76_5 _ _ _ _ ⟨b203, y13_v0, y13_v1, y13_v2, y13_v4, y13_xs4, y13_v3, y13_xs3, rfl, rfl, rfl, rfl, rfl, rfl, rfl, rfl, hy13_0, hy13_1, hy13_2, hy13_4, hy13_3, hs204⟩
            · skip
              refine JL.alloc ze_34 .none rfl ?_
              intro b208
              refine JA.after hE (HSub.refl _) (.cons _ (.cons _ (.cons_cons _ (.cons_cons _ (List.nil_sublist _))))) ?_
              refine JA.perm (swapAt_perm 0 _) ?_
              exact nd76_6 _ _ _ _ ⟨b203, b208, rfl, rfl, rfl, rfl, rfl, rfl, rfl, rfl, rfl, (HSub.refl _)⟩

end Go.Proofs.Ytcipdblhopffbaa
end
section
namespace Go.Proofs.Ytcipdblhopffbaa
open Go Go.RowKit Go.Dec
theorem law_CountsMore (r : Run) (m : Meter) (blow : Int) (_ : W_Run r) (_ : W_Meter m) (_ : I64 blow) : ∃ n, F_law13_CountsMore n r m blow = some true := by
  have hn : 100000000 ≤ 100000000 := Nat.le_refl _
  refine ⟨100000000, ?_⟩
  have hw := works13 hn
  simp only [F_law13_CountsMore]
  rcases p_ready hn r with h | ⟨h, hr⟩
  · simp [h, hw]
  · simp only [h, Option.bind_some, Bool.not_true, Bool.false_or]
    split
    · rw [hw]; rfl
    · rename_i hC
      simp only [Bool.or_eq_true, decide_eq_true_eq, not_or] at hC
      obtain ⟨⟨c1, c2⟩, c3⟩ := hC
      simp only [p_Copy13 hn hr.small, Option.bind_some]
      rw [lim_ok (by have := hr.nm; simp; omega)]
      simp only [Option.bind_some]
      rcases p_ready hn ⟨r.Canopy, r.Blows, r.Meters ++ [m], r.Wrong⟩ with h2 | ⟨h2, hr2⟩
      · simp [h2, hw]
      · have hwr := hr.w
        have ew : w64 (r.Wrong + 1) = r.Wrong + 1 := w64_id (by omega) (by omega)
        have hr3 : ROk ⟨r.Canopy, r.Blows, r.Meters, min 5 (r.Wrong + 1)⟩ := ⟨hr.d, hr.nb, hr.nm, hr.b, hr.m, by simp only; omega⟩
        have i1 := p_inside hn hr2 hr rfl rfl (i := blow) (by omega) (by simp only; omega) (fun c hc => by
          unfold truthsC at hc ⊢
          rw [List.mem_filter] at hc ⊢
          refine ⟨hc.1, ?_⟩
          have h3 := hc.2
          simp only [truthC, decide_eq_true_eq, wrong_snoc] at h3 ⊢
          split at h3 <;> omega)
        have i2 := p_inside hn hr hr3 rfl rfl (i := blow) (by omega) (by omega) (fun c hc => by
          unfold truthsC at hc ⊢
          rw [List.mem_filter] at hc ⊢
          refine ⟨hc.1, ?_⟩
          have h3 := hc.2
          simp only [truthC, decide_eq_true_eq] at h3 ⊢
          omega)
        simp only [h2, Option.bind_some, Bool.not_true, Bool.false_eq_true, if_false, i1, if_true, ew, i2, hw]
end Go.Proofs.Ytcipdblhopffbaa
end
section
namespace Go.Proofs.Ytcipdblhopffbaa
open Go Go.RowKit Go.Dec Go.ChangeShapes Go.WideShapes Go.ChangeAt
set_option linter.unusedVariables false
theorem cl_laidOut : laidOutB Try.prog = true := by kernel_rfl
theorem cl_own : ownKnob Try.prog.godebug = none := by kernel_rfl

set_option maxRecDepth 100000 in
set_option maxHeartbeats 1000000 in
theorem countsMore_contract (law : ∀ (x0 : Run) (x1 : Meter) (x2 : Int), W_Run x0 → W_Meter x1 → I64 x2 → ∃ n, F_law13_CountsMore n x0 x1 x2 = some true)
    (T : Type) (enc : TypeId × Value → T) (W : World) (base : Nat) (args : Array Value) (ds gs : List (DataW T)) (before : List MemPlace)
    (hval : ∀ (j : Nat) t v, Try.f3.params[j]? = some t → args[j]? = some v → Value.okWide Try.prog W .any base t v)
    (hW : DataW.Whole enc Try.prog Try.f3.params.toList Rows.countsMoreSpec.vars false W args.toList ds gs before) :
    Calls Try.prog 3 args W fun e W' => ∃ v, e = .returned v ∧ Rows.countsMoreSpec.post enc Try.prog Try.f3 false true false false W args v W' := by
  have hW' := hW
  obtain ⟨p, q, hA0, hV, rfl, hfz, hnd⟩ := hW
  have hA : DataW.TrodAll enc Try.prog W 0 (fun _ => true) true Try.f3.params.toList args.toList ds p := hA0
  rw [Try.params3] at hA hval
  obtain ⟨v0, vs0, d0, ds0, p0, q0, hargs, rfl, rfl, h0, r0⟩ := trodAll_cons hA
  obtain ⟨v1, vs1, d1, ds1, p1, q1, rfl, rfl, rfl, h1, r1⟩ := trodAll_cons r0
  obtain ⟨v2, vs2, d2, ds2, p2, q2, rfl, rfl, rfl, h2, r2⟩ := trodAll_cons r1
  obtain ⟨rfl, rfl, rfl⟩ := trodAll_nil r2
  obtain rfl : args = #[v0, v1, v2] := by rw [← Array.toArray_toList (xs := args), hargs]
  obtain ⟨rfl, rfl⟩ := trodVars_none hV
  obtain ⟨cs0, rfl, hs0⟩ := okWide_struct Try.underlying34 (hval 0 34 v0 rfl rfl)
  obtain ⟨cs1, rfl, hs1⟩ := okWide_struct Try.underlying36 (hval 1 36 v1 rfl rfl)
  obtain ⟨n2, rfl⟩ := okWide_int Try.underlying3 (hval 2 3 v2 rfl rfl)
  have k0 := h0
  obtain ⟨f0, e0⟩ := h0
  have k1 := h1
  obtain ⟨f1, e1⟩ := h1
  have k2 := h2
  obtain ⟨f2, e2⟩ := h2
  obtain ⟨_, x0, r0, w0⟩ := o_Run _ _ _ _ _ _ _ e0
  obtain ⟨_, x1, r1, w1⟩ := o_Meter _ _ _ _ _ _ _ e1
  obtain ⟨_, x2, r2, w2⟩ := (Opens.int (by kernel_rfl)) _ _ _ _ _ _ _ e2
  obtain ⟨n, hn⟩ := law x0 x1 x2 w0 w1 w2
  obtain ⟨u0_0, u0_1, u0_2, u0_3, u0_4, q0, s0_0, s0_1, s0_2, s0_3, s0_4⟩ := r0
  have q0 : cs0.toList = _ := q0
  obtain rfl : cs0 = _ := by rw [← Array.toArray_toList (xs := cs0), q0]
  have q1 : cs1.toList = _ := r1
  obtain rfl : cs1 = _ := by rw [← Array.toArray_toList (xs := cs1), q1]
  have q2 : [Value.int .i64 n2] = [Value.int .i64 x2] := r2
  obtain rfl : x2 = n2 := by simpa using q2.symm
  have hlt : ∀ x ∈ p0 ++ (p1 ++ (p2 ++ [])), x.block < W.heap.size := fun x hx => hW'.lt x (by simpa using hx)
  refine ((c_law13_CountsMore n (hw W) x0 u0_0 s0_0 u0_1 s0_1 u0_2 s0_2 u0_3 s0_3 u0_4 s0_4 x1 x2 true hn) W (hw_le W)).mono fun e W' ⟨he, hb0⟩ => ?_
  have hb := hb0.plain rfl
  subst he
  refine ⟨_, rfl, _, _, _, [], p0 ++ (p1 ++ (p2 ++ [])), [], hW', trodAll_cons_mk (shut_bool Try.underlying4 _) trodAll_mk0, ?_, rfl, hb.frame _, fun h => by cases h⟩
  exact trodAll_cons_mk (Below.trod cl_laidOut (by kernel_rfl) (of_decide_eq_true (by kernel_rfl)) k0 hb (fun x hx => hlt x (List.mem_append_left _ hx))) (trodAll_cons_mk (Below.trod cl_laidOut (by kernel_rfl) (of_decide_eq_true (by kernel_rfl)) k1 hb (fun x hx => hlt x (List.mem_append_right _ (List.mem_append_left _ hx)))) (trodAll_cons_mk (Below.trod cl_laidOut (by kernel_rfl) (of_decide_eq_true (by kernel_rfl)) k2 hb (fun x hx => hlt x (List.mem_append_right _ (List.mem_append_right _ (List.mem_append_left _ hx))))) trodAll_mk0))

set_option maxRecDepth 100000 in
theorem countsMore_lifted (law : ∀ (x0 : Run) (x1 : Meter) (x2 : Int), W_Run x0 → W_Meter x1 → I64 x2 → ∃ n, F_law13_CountsMore n x0 x1 x2 = some true)
    (os : Os) (started : os.Started) (H : Type) (enc : TypeId × Value → H) :
    ReturnsInHanded {} Try.checked os 3 .any (Rows.countsMoreSpec.pre6 enc Try.prog Try.f3 Rows.countsMoreRow.domain false) (Rows.countsMoreSpec.post enc Try.prog Try.f3 false true false false) := by
  refine returnsInHanded_of_change (C := Try.checked) cl_own started (by kernel_rfl) Try.func3
    (ChangeSpec.witness6 (enc := enc) (C := Try.checked) false ⟨#[], #[.agg #[.slice none 0 0, .int .i64 0, .int .i64 0, .int .i64 0, .int .i64 0, .int .i64 0, .int .i64 0, .slice none 0 0, .slice none 0 0, .slice none 0 0, .slice none 0 0, .int .i64 0], .agg #[.int .i64 0, .int .i64 0], .int .i64 0], []⟩ 8 (by kernel_rfl) (by kernel_rfl) (by kernel_rfl) (by kernel_rfl)) ?_
  intro W base args ds gs before hval hW _ _
  exact countsMore_contract law H enc W base args ds gs before hval hW

theorem countsMore_holds (law : ∀ (x0 : Run) (x1 : Meter) (x2 : Int), W_Run x0 → W_Meter x1 → I64 x2 → ∃ n, F_law13_CountsMore n x0 x1 x2 = some true) : Rows.CountsMoreSaid :=
  OpenClaim.holds_of_wide 3 Try.f3 rfl rfl rfl rfl rfl rfl rfl ⟨rfl, rfl, rfl, rfl, rfl⟩ rfl rfl rfl rfl rfl (by kernel_rfl) Try.func3 (by kernel_rfl)
    (of_decide_eq_true (by kernel_rfl)) (by unfold Func.isWrapper; first | (rw [if_pos (by decide +kernel)]; kernel_rfl) | (rw [if_neg (by decide +kernel)]; exact ⟨rfl, rfl⟩))
    (fun os started H enc _ => countsMore_lifted law os started H enc)
theorem countsMore_proved : Rows.CountsMoreSaid := countsMore_holds law_CountsMore
end Go.Proofs.Ytcipdblhopffbaa
end
