/-
  CountsLiars holds of every input that can be given, without a condition.
-/
import Derived.Test.YtcipdblhopffbaaJCLiars12
import Derived.OpenShut
import Derived.JoinedCond
import Derived.ProofKit
import Derived.WalkKit
section
namespace Go.Proofs.Ytcipdblhopffbaa
open Go Go.RowKit Go.Dec
set_option linter.unusedVariables false

theorem mem_cases : ∀ {bl : List Blow} {c : List Int}, c ∈ casesS bl ↔ c.length = bl.length ∧ ∀ (i : Nat) (b : Blow) (x : Int), bl[i]? = some b → c[i]? = some x → b.Force.Low ≤ x ∧ x ≤ b.Force.High
  | [], c => by
    constructor
    · intro h; simp [casesS] at h; subst h; simp
    · rintro ⟨h, _⟩
      have : c = [] := List.eq_nil_of_length_eq_zero h
      subst this; simp [casesS]
  | b :: bl, c => by
    simp only [casesS, List.mem_flatMap, List.mem_map]
    constructor
    · rintro ⟨f, hf, c', hc, rfl⟩
      obtain ⟨h1, h2⟩ := mem_cases.1 hc
      refine ⟨by simp [h1], fun i b' x hb hx => ?_⟩
      cases i with
      | zero =>
        simp only [List.getElem?_cons_zero, Option.some.injEq] at hb hx
        subst hb; subst hx
        exact span_mem'.1 hf
      | succ i =>
        simp only [List.getElem?_cons_succ] at hb hx
        exact h2 i b' x hb hx
    · rintro ⟨h1, h2⟩
      cases c with
      | nil => simp at h1
      | cons f c =>
        refine ⟨f, span_mem'.2 (h2 0 b f rfl rfl), c, mem_cases.2 ⟨by simpa using h1, fun i b' x hb hx => h2 (i + 1) b' x (by simpa using hb) (by simpa using hx)⟩, rfl⟩
theorem blowAt_of {r : Run} {i : Int} {b : Blow} (h : r.Blows[i.toNat]? = some b) : blowAt r i = b := by unfold blowAt; rw [h]; rfl
theorem fixed_ok {r : Run} (hr : ROk r) {i : Int} (h0 : 0 ≤ i) (h1 : i < r.Blows.length) {f : Int} (hf1 : (blowAt r i).Force.Low ≤ f) (hf2 : f ≤ (blowAt r i).Force.High) : ROk (fixedS r i f) := by
  have hi : i.toNat < r.Blows.length := by omega
  have e : r.Blows[i.toNat]? = some r.Blows[i.toNat] := List.getElem?_eq_getElem hi
  have hb := hr.b _ (List.getElem_mem hi)
  rw [blowAt_of e] at hf1 hf2
  refine ⟨hr.d, by simpa [fixedS, setx] using hr.nb, hr.nm, fun b h => ?_, hr.m, hr.w⟩
  simp only [fixedS, setx] at h
  rcases List.mem_or_eq_of_mem_set h with h | rfl
  · exact hr.b b h
  · have := hb.lo; have := hb.hi
    exact ⟨by simp only [blowAt_of e]; exact hb.at_, by simp only; omega, by simp only; omega, by simp only; omega, by simp only; omega⟩
theorem fixed_cases {r : Run} {i : Int} (h0 : 0 ≤ i) (h1 : i < r.Blows.length) {f : Int} (hf1 : (blowAt r i).Force.Low ≤ f) (hf2 : f ≤ (blowAt r i).Force.High) {c : List Int} : c ∈ casesS (fixedS r i f).Blows ↔ c ∈ casesS r.Blows ∧ c[i.toNat]? = some f := by
  have hi : i.toNat < r.Blows.length := by omega
  have e : r.Blows[i.toNat]? = some r.Blows[i.toNat] := List.getElem?_eq_getElem hi
  rw [mem_cases, mem_cases]
  simp only [fixedS, setx, List.length_set]
  rw [blowAt_of e] at hf1 hf2 ⊢
  constructor
  · rintro ⟨hl, h⟩
    have hf : c[i.toNat]? = some f := by
      have hc : c[i.toNat]? = some (c[i.toNat]'(by omega)) := List.getElem?_eq_getElem (by omega)
      have := h i.toNat ⟨r.Blows[i.toNat].At, ⟨f, f⟩⟩ _ (by rw [List.getElem?_set, if_pos rfl, if_pos hi]) hc
      simp only at this
      rw [hc]; congr 1; omega
    refine ⟨⟨hl, fun j b x hb hx => ?_⟩, hf⟩
    by_cases hj : i.toNat = j
    · subst hj
      rw [e] at hb; cases hb
      rw [hf] at hx; cases hx
      exact ⟨hf1, hf2⟩
    · exact h j b x (by rw [List.getElem?_set_ne hj]; exact hb) hx
  · rintro ⟨⟨hl, h⟩, hf⟩
    refine ⟨hl, fun j b x hb hx => ?_⟩
    by_cases hj : i.toNat = j
    · subst hj
      rw [List.getElem?_set, if_pos rfl, if_pos hi] at hb
      cases hb
      rw [hf] at hx; cases hx
      exact ⟨Int.le_refl _, Int.le_refl _⟩
    · rw [List.getElem?_set_ne hj] at hb
      exact h j b x hb hx
theorem fixed_truths {r : Run} {i : Int} (h0 : 0 ≤ i) (h1 : i < r.Blows.length) {f : Int} (hf1 : (blowAt r i).Force.Low ≤ f) (hf2 : f ≤ (blowAt r i).Force.High) {c : List Int} : c ∈ truthsC (fixedS r i f) ↔ c ∈ truthsC r ∧ c[i.toNat]? = some f := by
  unfold truthsC
  rw [List.mem_filter, List.mem_filter, fixed_cases h0 h1 hf1 hf2]
  constructor
  · rintro ⟨⟨a, b⟩, c⟩; exact ⟨⟨a, c⟩, b⟩
  · rintro ⟨⟨a, c⟩, b⟩; exact ⟨⟨a, b⟩, c⟩
theorem fixed_err {r : Run} (hr : ROk r) {i : Int} (h0 : 0 ≤ i) (h1 : i < r.Blows.length) {f : Int} (hf1 : (blowAt r i).Force.Low ≤ f) (hf2 : f ≤ (blowAt r i).Force.High) : errR (fixedS r i f) true = 0 ↔ ∃ c ∈ truthsC r, c[i.toNat]? = some f := by
  rw [errR_true (fixed_ok hr h0 h1 hf1 hf2)]
  constructor
  · intro h
    split at h
    · cases h
    · rename_i hne
      obtain ⟨c, hc⟩ := List.exists_mem_of_ne_nil _ hne
      exact ⟨c, (fixed_truths h0 h1 hf1 hf2).1 hc⟩
  · rintro ⟨c, hc⟩
    rw [if_neg (fun e => by have := (fixed_truths h0 h1 hf1 hf2).2 hc; rw [e] at this; cases this)]
theorem truth_case {r : Run} {c : List Int} (h : c ∈ truthsC r) : c ∈ casesS r.Blows := (List.mem_filter.1 h).1
/-- the forces that a blow can have -/
theorem forces_mem {r : Run} (hr : ROk r) {i : Int} (h0 : 0 ≤ i) (h1 : i < r.Blows.length) {f : Int} : f ∈ forcesL r i ↔ ∃ c ∈ truthsC r, c[i.toNat]? = some f := by
  unfold forcesL
  rw [List.mem_filter, span_mem']
  constructor
  · rintro ⟨⟨a, b⟩, h⟩
    exact (fixed_err hr h0 h1 a b).1 (by simpa using h)
  · rintro ⟨c, hc, hf⟩
    have hi : i.toNat < r.Blows.length := by omega
    have e : r.Blows[i.toNat]? = some r.Blows[i.toNat] := List.getElem?_eq_getElem hi
    have := (mem_cases.1 (truth_case hc)).2 i.toNat _ f e hf
    rw [blowAt_of e]
    refine ⟨this, ?_⟩
    have h2 := (fixed_err hr h0 h1 (f := f) (by rw [blowAt_of e]; exact this.1) (by rw [blowAt_of e]; exact this.2)).2 ⟨c, hc, hf⟩
    simpa using h2
theorem span_sorted (a b : Int) : (span a b).Pairwise (· < ·) := by
  unfold span
  rw [List.pairwise_map]
  have : (List.range (b + 1 - a).toNat).Pairwise (· < ·) := List.pairwise_lt_range
  exact this.imp fun h => by omega
theorem forces_sorted (r : Run) (i : Int) : (forcesL r i).Pairwise (· < ·) := (span_sorted _ _).filter _
theorem forces_len {r : Run} (hr : ROk r) {i : Int} (h0 : 0 ≤ i) (h1 : i < r.Blows.length) : (forcesL r i).length ≤ 10 := by
  have hi : i.toNat < r.Blows.length := by omega
  have e : r.Blows[i.toNat]? = some r.Blows[i.toNat] := List.getElem?_eq_getElem hi
  have := (hr.b _ (List.getElem_mem hi)).gap
  refine Nat.le_trans (List.length_filter_le _ _) ?_
  rw [span_len, blowAt_of e]; omega
theorem len_le_total {L : List (List Int)} {T : Mp} (h : RM L T) : T.length ≤ L.length := by
  have h1 := h.total
  have : ∀ T : Mp, (∀ p ∈ T, 0 < p.2) → (T.length : Int) ≤ (T.map (·.2)).sum := by
    intro T
    induction T with
    | nil => intro _; simp
    | cons p T ih =>
      intro h
      have := h p (List.mem_cons_self ..)
      have := ih fun q hq => h q (List.mem_cons_of_mem _ hq)
      simp only [List.map_cons, List.sum_cons, List.length_cons]; omega
  have := this T h.pos
  omega
theorem rightX_read {r : Run} (hm : r.Meters.length ≤ 5) {a : Blow → Int → Bool} {c : List Int} (hc : c ∈ casesS r.Blows) {i : Int} (h0 : 0 ≤ i) (h1 : i < r.Meters.length) : ((readS r.Meters a r.Blows c zeroX).getD i.toNat 0 == (meterAt r i).Count) = rightC (meterAt r i) c := by
  have hi : i.toNat < r.Meters.length := by omega
  have e : r.Meters[i.toNat]? = some r.Meters[i.toNat] := List.getElem?_eq_getElem hi
  unfold meterAt rightC
  rw [e, readS_at hm hc e]; rfl

section
variable {n : Nat} (hn : 100000000 ≤ n)
include hn
omit hn in
theorem right_count {m : Int} {w : counts_test} (q : List Int → Bool) (T : Mp) (hq : ∀ p ∈ T, F_counts_test_right n w p.1 m = some (q p.1)) : ∀ (l : Mp) (s : Int), (∀ p ∈ l, p ∈ T) → 0 ≤ s → s + l.length ≤ 1000000000 → foldP (F_counts_Right_s1 n m w) s l = some (s + (l.countP fun p => q p.1 : Nat))
  | [], s, _, _, _ => by simp [foldP]
  | p :: l, s, h, h0, hb => by
    have hp := hq p (h p (List.mem_cons_self ..))
    simp only [List.length_cons] at hb
    obtain ⟨x, v⟩ := p
    simp only at hp
    rw [foldP, F_counts_Right_s1, hp]
    simp only [Option.bind_some, List.countP_cons]
    cases q x with
    | true =>
      simp only [if_true, Option.bind_some]
      rw [w64_id (by omega) (by omega), right_count q T hq l (s + 1) (fun z hz => h z (List.mem_cons_of_mem _ hz)) (by omega) (by omega)]
      congr 1; omega
    | false =>
      simp only [Bool.false_eq_true, if_false, Option.bind_some]
      rw [right_count q T hq l s (fun z hz => h z (List.mem_cons_of_mem _ hz)) (by omega) (by omega)]
      congr 1
theorem p_Right {r : Run} (hs : SmallR r) (i : Int) : F_counts_Right n r i = some (rightT r i) := by
  simp only [F_counts_Right, p_cwithin, Option.bind_some]
  rw [w64_id (by have := hs.2.2; omega) (by have := hs.2.2; omega)]
  simp only [p_openN hn hs, Option.bind_some, rightT]
  by_cases h : errR r (wi i 0 ((r.Meters.length : Int) - 1)) = 0
  · rw [if_pos h, if_pos h]
    obtain ⟨hr, hw, hne⟩ := errR_ok h
    have hi := wi_t.1 hw
    have hT := tally_ok (trs r fun _ _ => false)
    have hx : ∀ p ∈ tally (trs r fun _ _ => false), ∃ c ∈ truthsC r, p.1 = readS r.Meters (fun _ _ => false) r.Blows c zeroX := fun p hp => by
      have h1 := hT.key.1 ⟨p.2, hp⟩
      rw [trs_eq hr.nm] at h1
      obtain ⟨c, hc, e⟩ := List.mem_map.1 h1
      exact ⟨c, hc, e.symm⟩
    have h6 : ∀ p ∈ tally (trs r fun _ _ => false), p.1.length = 6 := fun p hp => (xok_of hr.nb p.1 (List.mem_filter.1 (hT.key.1 ⟨p.2, hp⟩)).1).1
    have hq : ∀ p ∈ tally (trs r fun _ _ => false), F_counts_test_right n ⟨r, fun a0_ a1_ => F_counts_none n a0_ a1_⟩ p.1 i = some (p.1.getD i.toNat 0 == (meterAt r i).Count) := fun p hp => by
      have := p_right hn (asked := fun a0_ a1_ => F_counts_none n a0_ a1_) (h6 p hp) hr.nm (i := i.toNat) (by omega)
      rw [show ((i.toNat : Nat) : Int) = i by omega] at this
      exact this
    have hlen : (tally (trs r fun _ _ => false)).length ≤ 100000000 := by
      have h1 := len_le_total hT
      have h2 : (trs r fun _ _ => false).length = (truthsC r).length := by rw [trs_eq hr.nm]; simp
      have := truths_len hr
      omega
    have hP : permO (F_counts_Right_s1 n i ⟨r, fun a0_ a1_ => F_counts_none n a0_ a1_⟩) 0 (tally (trs r fun _ _ => false)) = some (((tally (trs r fun _ _ => false)).countP fun p => p.1.getD i.toNat 0 == (meterAt r i).Count : Nat) : Int) := permO_of fun l hl => by
      rw [right_count (fun x => x.getD i.toNat 0 == (meterAt r i).Count) _ hq l 0 (fun p hp => hl.mem_iff.1 hp) (Int.le_refl _) (by rw [hl.length_eq]; omega), hl.countP_eq, Int.zero_add]
    simp only [bne_self_eq_false, Bool.false_eq_true, if_false, trs_ne h, Option.bind_some, hP]
    have all_iff : ((tally (trs r fun _ _ => false)).countP fun p => p.1.getD i.toNat 0 == (meterAt r i).Count) = (tally (trs r fun _ _ => false)).length ↔ ((truthsC r).all (rightC (meterAt r i))) = true := by
      rw [List.countP_eq_length, List.all_eq_true]
      constructor
      · intro h c hc
        obtain ⟨v, hv⟩ := hT.key.2 (show readS r.Meters (fun _ _ => false) r.Blows c zeroX ∈ _ by rw [trs_eq hr.nm]; exact List.mem_map.2 ⟨c, hc, rfl⟩)
        have := h _ hv
        rwa [rightX_read hr.nm (truth_case hc) hi.1 (by omega)] at this
      · intro h p hp
        obtain ⟨c, hc, e⟩ := hx p hp
        rw [e, rightX_read hr.nm (truth_case hc) hi.1 (by omega)]
        exact h c hc
    have none_iff : ((tally (trs r fun _ _ => false)).countP fun p => p.1.getD i.toNat 0 == (meterAt r i).Count) = 0 ↔ ((truthsC r).all fun c => !rightC (meterAt r i) c) = true := by
      rw [List.countP_eq_zero, List.all_eq_true]
      constructor
      · intro h c hc
        obtain ⟨v, hv⟩ := hT.key.2 (show readS r.Meters (fun _ _ => false) r.Blows c zeroX ∈ _ by rw [trs_eq hr.nm]; exact List.mem_map.2 ⟨c, hc, rfl⟩)
        have := h _ hv
        rw [rightX_read hr.nm (truth_case hc) hi.1 (by omega)] at this
        simpa using this
      · intro h p hp
        obtain ⟨c, hc, e⟩ := hx p hp
        rw [e, rightX_read hr.nm (truth_case hc) hi.1 (by omega)]
        simpa using h c hc
    generalize (List.countP (fun p : List Int × Int => p.1.getD i.toNat 0 == (meterAt r i).Count) (tally (trs r fun _ _ => false))) = K at all_iff none_iff ⊢
    generalize (tally (trs r fun _ _ => false)).length = Z at all_iff ⊢
    by_cases h1 : ((truthsC r).all (rightC (meterAt r i))) = true
    · rw [if_pos h1]
      have e : ((K : Int) == (Z : Int)) = true := by rw [all_iff.2 h1]; exact beq_self_eq_true _
      rw [e]; rfl
    · rw [if_neg h1]
      have e : ((K : Int) == (Z : Int)) = false := by
        rw [beq_eq_false_iff_ne]; intro e; exact h1 (all_iff.1 (by omega))
      rw [e]
      simp only [Bool.false_eq_true, if_false]
      by_cases h2 : ((truthsC r).all fun c => !rightC (meterAt r i) c) = true
      · rw [if_pos h2]
        have e : ((K : Int) == 0) = true := by rw [none_iff.2 h2]; rfl
        rw [e]; rfl
      · rw [if_neg h2]
        have e : ((K : Int) == 0) = false := by
          rw [beq_eq_false_iff_ne]; intro e; exact h2 (none_iff.1 (by omega))
        rw [e]; rfl
  · rw [if_neg h, if_neg h]
    have e : (errR r (wi i 0 ((r.Meters.length : Int) - 1)) != 0) = true := by simpa using h
    simp only [e, if_true]
theorem p_fixed {r : Run} (hs : SmallR r) {i : Int} (h0 : 0 ≤ i) (h1 : i < r.Blows.length) (f : Int) : F_counts_fixed n r i f = some (fixedS r i f) := by
  have _hn := hn
  have hi : i.toNat < r.Blows.length := by omega
  have e : r.Blows[i.toNat]? = some r.Blows[i.toNat] := List.getElem?_eq_getElem hi
  have hg : geti r.Blows i = some r.Blows[i.toNat] := by unfold geti; rw [if_pos h0, e]
  have hl : F_slices_Clone___api_Blow_api_Blow_ n r.Blows = some r.Blows := lim_ok (by have := hs.2.1; omega)
  simp only [F_counts_fixed, hl, Option.bind_some, hg, fixedS, blowAt_of e]
theorem p_Forces {r : Run} (hs : SmallR r) (i : Int) : F_counts_Forces n r i = some (forcesT r i) := by
  simp only [F_counts_Forces, p_cwithin, Option.bind_some]
  rw [w64_id (by have := hs.2.1; omega) (by have := hs.2.1; omega)]
  simp only [p_openN hn hs, Option.bind_some, forcesT]
  by_cases h : errR r (wi i 0 ((r.Blows.length : Int) - 1)) = 0
  · rw [if_pos h, if_pos h]
    obtain ⟨hr, hw, hne⟩ := errR_ok h
    have hi := wi_t.1 hw
    have h1 : i < r.Blows.length := by omega
    have hi' : i.toNat < r.Blows.length := by omega
    have e : r.Blows[i.toNat]? = some r.Blows[i.toNat] := List.getElem?_eq_getElem hi'
    have hg : geti r.Blows i = some (blowAt r i) := by unfold geti; rw [if_pos hi.1, e, blowAt_of e]
    have hb := hr.b _ (List.getElem_mem hi')
    rw [← blowAt_of e] at hb
    have hlo := hb.lo; have hhi := hb.hi; have hgap := hb.gap
    have hl := loop_span_fold (step := F_counts_Forces_s1 n r i) (fun f (out : List Int) => (f, out)) (fun out f => if (errR (fixedS r i f) true == 0) = true then out ++ [f] else out) (fun out => out) (fun f out => (out.length : Int) ≤ f - (blowAt r i).Force.Low) (hi := (blowAt r i).Force.High) _ (blowAt r i).Force.Low [] n rfl (by simp) (fun f out h2 h3 hI => by
      have hsF : SmallR (fixedS r i f) := ⟨hs.1, by simpa [fixedS, setx] using hs.2.1, hs.2.2⟩
      simp only [F_counts_Forces_s1, hg, Option.bind_some, h3, decide_true, if_true, p_fixed hn hs hi.1 h1, p_openN hn hsF]
      rw [w64_id (by omega) (by omega)]
      by_cases he : errR (fixedS r i f) true = 0
      · have hlim : lim (out ++ [f]) = some (out ++ [f]) := lim_ok (by simp; omega)
        simp only [he, if_true, beq_self_eq_true, hlim, Option.bind_some]
        refine ⟨by first | rfl | trivial, ?_⟩
        rw [List.length_append]; simp; omega
      · have e2 : (errR (fixedS r i f) true == 0) = false := by simpa using he
        simp only [he, if_false, e2, Bool.false_eq_true, Option.bind_some]
        exact ⟨by first | rfl | trivial, by omega⟩) (fun f out h2 h3 hI => by
      simp only [F_counts_Forces_s1, hg, Option.bind_some]
      rw [show decide (f ≤ (blowAt r i).Force.High) = false from decide_eq_false (by omega)]
      rfl) (by omega)
    simp only [bne_self_eq_false, Bool.false_eq_true, if_false, hg, Option.bind_some, hl.1, foldl_filter_append, List.nil_append]
    rfl
  · rw [if_neg h, if_neg h]
    have e : (errR r (wi i 0 ((r.Blows.length : Int) - 1)) != 0) = true := by simpa using h
    simp only [e, if_true]

/-! ### the small functions of the statements -/
omit hn in
theorem sameI_spec (a b : List Int) : (decide (a.length = b.length) && (List.range a.length).all fun i => a[i]? == b[i]?) = decide (a = b) := by
  rw [Bool.eq_iff_iff]
  simp only [Bool.and_eq_true, decide_eq_true_eq, List.all_eq_true, List.mem_range, beq_iff_eq]
  constructor
  · rintro ⟨h1, h2⟩
    apply List.ext_getElem?
    intro i
    by_cases hi : i < a.length
    · exact h2 i hi
    · rw [List.getElem?_eq_none (by omega), List.getElem?_eq_none (by omega)]
  · rintro rfl; exact ⟨rfl, fun _ _ => rfl⟩
theorem p_sameI {a b : List Int} (ha : a.length ≤ 1000) : F_law13_sameInts n a b = some (decide (a = b)) := by
  rw [← sameI_spec]
  unfold F_law13_sameInts
  by_cases h : a.length = b.length
  · have e : ((a.length : Int) != (b.length : Int)) = false := by simp [h]
    rw [e]
    simp only [Bool.false_eq_true, if_false]
    have kk := loop_all (step := F_law13_sameInts_s1 n a b) a.length (fun i => a[i]? == b[i]?) false (n := n) (by omega) (fun i hi => ?_) ?_ (by omega)
    · rw [kk]
      cases ((List.range a.length).all fun i => a[i]? == b[i]?) <;> simp [h]
    · have h1 : a[i]? = some a[i] := List.getElem?_eq_getElem hi
      have h2 : b[i]? = some (b[i]'(by omega)) := List.getElem?_eq_getElem (by omega)
      simp only [F_law13_sameInts_s1, lt_nat, hi, decide_true, if_true, geti_nat, h1, h2, Option.bind_some, w64_nat (show i ≤ 4611686018427387904 by omega)]
      by_cases hab : a[i] = b[i]'(by omega)
      · simp [hab]
      · have e1 : (a[i] != b[i]'(by omega)) = true := by simpa using hab
        have e2 : (a[i] == b[i]'(by omega)) = false := by simpa using hab
        simp [e1, hab, e2]
    · simp [F_law13_sameInts_s1]
  · have e : ((a.length : Int) != (b.length : Int)) = true := by simp; omega
    rw [e]; simp [h]
theorem p_hasI {l : List Int} (hl : l.length ≤ 1000) (x : Int) : F_law13_has n l x = some (l.contains x) := by
  unfold F_law13_has
  have kk := loop_all_l (step := F_law13_has_s1 n l x) l (fun y => !(y == x)) true (n := n) (by omega) (fun i y hy hi => by
    simp only [F_law13_has_s1, lt_nat, hi, decide_true, if_true, geti_nat, hy, Option.bind_some, w64_nat (show i ≤ 4611686018427387904 by omega)]
    cases (y == x) <;> rfl) (by simp [F_law13_has_s1]) (by omega)
  rw [kk]
  have : (l.all fun y => !(y == x)) = !l.contains x := by
    rw [Bool.eq_iff_iff, Bool.not_eq_true', ← Bool.not_eq_true]
    simp only [List.all_eq_true, List.contains_eq_mem, decide_eq_true_eq, Bool.not_eq_true', beq_eq_false_iff_ne, ne_eq]
    constructor
    · intro h hx; exact h x hx rfl
    · intro h y hy e; subst e; exact h hy
  rw [this]
  cases l.contains x <;> rfl
theorem p_Copy13 {r : Run} (hs : SmallR r) : F_ref13_Copy n r = some r := by
  simp only [F_ref13_Copy, p_Copy05 hn hs.1, Option.bind_some, List.nil_append]
  rw [lim_ok (by have := hs.2.1; omega), lim_ok (by have := hs.2.2; omega)]
  rfl
theorem p_Far13 (r : Run) : F_law13_Far n r = some true ∨ (F_law13_Far n r = some false ∧ SmallR r ∧ r.Blows.length ≤ 40 ∧ r.Meters.length ≤ 40) := by
  unfold F_law13_Far
  rcases p_Far hn r.Canopy with h | ⟨h, hs, h1, h2, h3⟩
  · left; rw [h]; rfl
  · rw [h]
    simp only [Option.bind_some, Bool.false_or]
    by_cases h4 : 40 < (r.Blows.length : Int)
    · left; simp [h4]
    · by_cases h5 : 40 < (r.Meters.length : Int)
      · left; simp [h5]
      · have hsr : SmallR r := ⟨hs, by omega, by omega⟩
        have e4 : decide (40 < (r.Blows.length : Int)) = false := decide_eq_false h4
        have e5 : decide (40 < (r.Meters.length : Int)) = false := decide_eq_false h5
        simp only [e4, e5, Bool.false_or, Bool.false_eq_true, if_false, p_Check13 hn hsr, Option.bind_some]
        by_cases h6 : checkR r = 0
        · have hr := checkR_ok.1 h6
          have e6 : (checkR r != 0) = false := by simp [h6]
          rw [e6]
          simp only [Bool.false_eq_true, if_false]
          have key : ∀ (k i : Nat) (m : Int) (fuel : Nat), i + k = r.Blows.length → 1 ≤ m → m ≤ 600 → k < fuel → ∃ v, loopO fuel (F_law13_Far_s1 n r) (m, (i : Int)) = some v ∧ (v = .inl true ∨ v = .inr ()) := by
            intro k
            induction k with
            | zero =>
              intro i m fuel hi _ _ hf
              refine ⟨.inr (), loop_done ?_ hf, .inr rfl⟩
              have : i = r.Blows.length := by omega
              subst this
              simp [F_law13_Far_s1]
            | succ k ih =>
              intro i m fuel hi h1 h2 hf
              obtain ⟨fuel, rfl⟩ : ∃ k, fuel = k + 1 := ⟨fuel - 1, by omega⟩
              have hlt : i < r.Blows.length := by omega
              have e : r.Blows[i]? = some r.Blows[i] := List.getElem?_eq_getElem hlt
              have hb := hr.b _ (List.getElem_mem hlt)
              have hg := hb.gap; have hle := hb.le; have := hb.lo; have := hb.hi
              have hm1 := mul_in (x := m) (y := r.Blows[i].Force.High - r.Blows[i].Force.Low + 1) (A := 600) (C := 10) (by omega) h2 (by omega) (by omega)
              have hm2 : 1 ≤ m * (r.Blows[i].Force.High - r.Blows[i].Force.Low + 1) := by
                have := Int.mul_le_mul h1 (show 1 ≤ r.Blows[i].Force.High - r.Blows[i].Force.Low + 1 by omega) (by omega) (by omega)
                omega
              rw [loopO_succ]
              simp only [F_law13_Far_s1, lt_nat, hlt, decide_true, if_true, geti_nat, e, Option.bind_some]
              rw [w64_id (n := r.Blows[i].Force.High - r.Blows[i].Force.Low) (by omega) (by omega), w64_id (n := r.Blows[i].Force.High - r.Blows[i].Force.Low + 1) (by omega) (by omega), w64_id (by omega) (by omega), w64_nat (show i ≤ 4611686018427387904 by have := hr.nb; omega)]
              by_cases hbig : 600 < m * (r.Blows[i].Force.High - r.Blows[i].Force.Low + 1)
              · rw [if_pos (by simpa using hbig)]
                exact ⟨_, rfl, .inl rfl⟩
              · rw [if_neg (by simpa using hbig)]
                exact ih (i + 1) _ fuel (by omega) hm2 (by omega) (by omega)
          obtain ⟨v, hv, hv2⟩ := key r.Blows.length 0 1 n (by omega) (by omega) (by omega) (by have := hr.nb; omega)
          simp only [Int.natCast_zero] at hv
          rw [hv]
          rcases hv2 with rfl | rfl
          · left; rfl
          · right; exact ⟨rfl, hsr, by omega, by omega⟩
        · right
          have e6 : (checkR r != 0) = true := by simpa using h6
          rw [e6]
          exact ⟨rfl, hsr, by omega, by omega⟩
/-- what 'ready' says -/
theorem p_ready (r : Run) : F_law13_ready n r = some false ∨ (F_law13_ready n r = some true ∧ ROk r) := by
  unfold F_law13_ready
  rcases p_Far13 hn r with h | ⟨h, hs, _⟩
  · left; rw [h]; rfl
  · rw [h]
    simp only [Option.bind_some, Bool.not_false, if_true, p_Check13 hn hs]
    by_cases h6 : checkR r = 0
    · right; exact ⟨by simp [h6], checkR_ok.1 h6⟩
    · left
      have : (checkR r == 0) = false := by simpa using h6
      rw [this]
end
/-! ### the example -/
def exR : Run := ⟨exD, [⟨0, ⟨10, 14⟩⟩, ⟨0, ⟨12, 15⟩⟩, ⟨3, ⟨4, 6⟩⟩], [⟨13, 1⟩, ⟨5, 3⟩], 0⟩
set_option maxRecDepth 1000000 in
theorem ex_small : SmallR exR := by refine ⟨⟨?_, ?_, ?_⟩, ?_, ?_⟩ <;> decide
set_option maxRecDepth 1000000 in
theorem ex_forces : forcesT exR 2 = ([5, 6], 0) := by kernel_rfl
set_option maxRecDepth 1000000 in
theorem ex_many : manyT exR = (22, 0) := by kernel_rfl
set_option maxRecDepth 1000000 in
theorem ex_harm : harmT exR = (⟨0, 2⟩, 0) := by kernel_rfl
theorem ex_err : errR exR true = 0 := by
  have h := ex_many
  unfold manyT at h
  split at h
  · assumption
  · rename_i hne
    simp only [Prod.mk.injEq] at h
    exact absurd h.2 hne
theorem ex_stood : stoodT exR = (3, 0) := by
  unfold stoodT
  rw [if_pos ex_err, ex_harm]; rfl
theorem ex_of (n : Nat) : F_law13_Example n = some exR := rfl
theorem works13 {n : Nat} (hn : 100000000 ≤ n) : F_law13_works n = some true := by
  simp only [F_law13_works, ex_of, Option.bind_some, p_Forces hn ex_small, p_Many hn ex_small, p_Harm hn ex_small, p_Stood hn ex_small, ex_forces, ex_many, ex_harm, ex_stood, p_sameI hn (a := [5, 6]) (b := [5, 6]) (by decide)]
  rfl
end Go.Proofs.Ytcipdblhopffbaa
end
section
namespace Go.Proofs.Ytcipdblhopffbaa
open Go Go.RowKit Go.Dec
set_option linter.unusedVariables false

theorem fmin_le_of {α : Type} {f g : α → Int} {l m : List α} (h : ∀ x ∈ m, ∃ y ∈ l, f y ≤ g x) (s : Int) : fmin f l s ≤ fmin g m s := by
  obtain ⟨⟨a1, a2⟩, _⟩ := fmin_spec f l s
  obtain ⟨_, b3⟩ := fmin_spec g m s
  rcases b3 with e | ⟨x, hx, e⟩
  · omega
  · obtain ⟨y, hy, hle⟩ := h x hx
    have := a2 y hy; omega
theorem fmax_le_of {α : Type} {f g : α → Int} {l m : List α} (h : ∀ x ∈ m, ∃ y ∈ l, g x ≤ f y) (s : Int) : fmax g m s ≤ fmax f l s := by
  obtain ⟨⟨a1, a2⟩, _⟩ := fmax_spec f l s
  obtain ⟨_, b3⟩ := fmax_spec g m s
  rcases b3 with e | ⟨x, hx, e⟩
  · omega
  · obtain ⟨y, hy, hle⟩ := h x hx
    have := a2 y hy; omega
theorem askN_le (a : Blow → Int → Bool) (bl : List Blow) (c : List Int) : askN a bl c ≤ bl.length := by
  unfold askN
  refine Nat.le_trans List.countP_le_length ?_
  rw [List.length_zip]; omega
theorem harm_low {r : Run} (hr : ROk r) (h : errR r true = 0) : (harmT r).1 = ⟨fmin (fun c => (askN (fellA r.Canopy true) r.Blows c : Int)) (truthsC r) r.Blows.length, fmax (fun c => (askN (fellA r.Canopy false) r.Blows c : Int)) (truthsC r) 0⟩ := by
  unfold harmT; rw [if_pos h]
theorem harm_err (r : Run) : (harmT r).2 = errR r true := by
  unfold harmT
  split
  · rename_i h; exact h.symm
  · rfl
theorem many_err (r : Run) : (manyT r).2 = errR r true := by
  unfold manyT
  split
  · rename_i h; exact h.symm
  · rfl
theorem stood_err (r : Run) : (stoodT r).2 = errR r true := by
  unfold stoodT
  split
  · rename_i h; exact h.symm
  · rfl
theorem forces_in {r : Run} {i : Int} (h0 : 0 ≤ i) (h1 : i < r.Blows.length) : forcesT r i = if errR r true = 0 then (forcesL r i, 0) else ([], errR r true) := by
  have e : wi i 0 ((r.Blows.length : Int) - 1) = true := wi_t.2 ⟨h0, by omega⟩
  unfold forcesT; rw [e]
theorem right_in {r : Run} {i : Int} (h0 : 0 ≤ i) (h1 : i < r.Meters.length) : rightT r i = (if errR r true = 0 then (if ((truthsC r).all (rightC (meterAt r i))) = true then 1 else if ((truthsC r).all fun c => !rightC (meterAt r i) c) = true then 2 else 3, 0) else (0, errR r true)) := by
  have e : wi i 0 ((r.Meters.length : Int) - 1) = true := wi_t.2 ⟨h0, by omega⟩
  unfold rightT; rw [e]
theorem reads_in {r : Run} {a : Int} (h0 : 0 ≤ a) (h1 : a ≤ 99) : readsT r a = (if errR r true = 0 then (⟨fmin (fun c => (askN (readsA a) r.Blows c : Int)) (truthsC r) r.Blows.length, fmax (fun c => (askN (readsA a) r.Blows c : Int)) (truthsC r) 0⟩, 0) else (⟨0, 0⟩, errR r true)) := by
  have e : wi a 0 99 = true := wi_t.2 ⟨h0, h1⟩
  unfold readsT boundsT; rw [e]
/-- the forces of a blow do not hang on more than the truths -/
theorem forces_sub {a b : Run} (ha : ROk a) (hb : ROk b) (hbl : a.Blows = b.Blows) {i : Int} (h0 : 0 ≤ i) (h1 : i < a.Blows.length) (ht : ∀ c ∈ truthsC a, c ∈ truthsC b) : (∀ x ∈ forcesL a i, x ∈ forcesL b i) ∧ (forcesL a i).length ≤ (forcesL b i).length := by
  have hsub : ∀ x ∈ forcesL a i, x ∈ forcesL b i := fun x hx => by
    obtain ⟨c, hc, e⟩ := (forces_mem ha h0 h1).1 hx
    exact (forces_mem hb h0 (by rw [← hbl]; exact h1)).2 ⟨c, ht c hc, e⟩
  refine ⟨hsub, ?_⟩
  have e : blowAt a i = blowAt b i := by unfold blowAt; rw [hbl]
  unfold forcesL at hsub ⊢
  rw [e] at hsub ⊢
  rw [← List.countP_eq_length_filter, ← List.countP_eq_length_filter]
  refine List.countP_mono_left fun x hx hp => ?_
  exact (List.mem_filter.1 (hsub x (List.mem_filter.2 ⟨hx, hp⟩))).2
theorem truths_ext {a b : Run} (hbl : a.Blows = b.Blows) (ht : ∀ c ∈ casesS a.Blows, truthC a c = truthC b c) : truthsC a = truthsC b := by
  unfold truthsC
  rw [← hbl]
  exact List.filter_congr ht
theorem forces_eq {a b : Run} (ha : ROk a) (hb : ROk b) (hbl : a.Blows = b.Blows) {i : Int} (h0 : 0 ≤ i) (h1 : i < a.Blows.length) (ht : truthsC a = truthsC b) : forcesL a i = forcesL b i := by
  have e : blowAt a i = blowAt b i := by unfold blowAt; rw [hbl]
  have h2 := (forces_sub ha hb hbl h0 h1 (by rw [ht]; exact fun c h => h)).1
  have h3 := (forces_sub hb ha hbl.symm h0 (by rw [← hbl]; exact h1) (by rw [ht]; exact fun c h => h)).1
  unfold forcesL at h2 h3 ⊢
  rw [e] at h2 h3 ⊢
  refine List.filter_congr fun x hx => ?_
  rw [Bool.eq_iff_iff]
  exact ⟨fun hp => (List.mem_filter.1 (h2 x (List.mem_filter.2 ⟨hx, hp⟩))).2, fun hp => (List.mem_filter.1 (h3 x (List.mem_filter.2 ⟨hx, hp⟩))).2⟩
theorem truths_pos {r : Run} {is : Bool} (h : errR r is = 0) : 1 ≤ (truthsC r).length := by
  obtain ⟨_, _, h3⟩ := errR_ok h
  exact List.length_pos_iff.2 h3
section
variable {n : Nat} (hn : 100000000 ≤ n)
include hn
/-- all that can be so of a run can be so of another one -/
theorem p_inside {a b : Run} (ha : ROk a) (hb : ROk b) (hbl : a.Blows = b.Blows) (hd : a.Canopy = b.Canopy) {i : Int} (h0 : 0 ≤ i) (h1 : i < a.Blows.length) (ht : ∀ c ∈ truthsC a, c ∈ truthsC b) : F_law13_inside n a b i = some true := by
  have h1' : i < b.Blows.length := by rw [← hbl]; exact h1
  have hf := forces_sub ha hb hbl h0 h1 ht
  have hl := forces_len ha h0 h1
  have hl' := forces_len hb h0 h1'
  simp only [F_law13_inside, p_Many hn ha.small, p_Many hn hb.small, p_Forces hn ha.small, p_Forces hn hb.small, p_Harm hn ha.small, p_Harm hn hb.small, Option.bind_some, harm_err, many_err, forces_in h0 h1, forces_in h0 h1']
  rcases errR_three ha with ea | ea
  · have eb : errR b true = 0 := by
      rw [errR_true hb, if_neg]
      obtain ⟨_, _, h3⟩ := errR_ok ea
      obtain ⟨c, hc⟩ := List.exists_mem_of_ne_nil _ h3
      intro e
      have := ht c hc
      rw [e] at this; cases this
    have hm : (truthsC a).length ≤ (truthsC b).length := by
      unfold truthsC at ht ⊢
      rw [← hbl] at ht ⊢
      rw [← List.countP_eq_length_filter, ← List.countP_eq_length_filter]
      exact List.countP_mono_left fun x hx hp => (List.mem_filter.1 (ht x (List.mem_filter.2 ⟨hx, hp⟩))).2
    have hp := truths_pos ea
    have kk := loop_all_l (step := F_law13_inside_s1 n (forcesL a i, 0) (forcesL b i, 0)) (forcesL a i) (fun x => (forcesL b i).contains x) false (n := n) (by omega) (fun j y hy hj => by
      simp only [F_law13_inside_s1, lt_nat, hj, decide_true, if_true, geti_nat, hy, Option.bind_some, p_hasI hn (l := forcesL b i) (by omega), w64_nat (show j ≤ 4611686018427387904 by omega)]
      cases (forcesL b i).contains y <;> rfl) (by simp [F_law13_inside_s1]) (by omega)
    have hall : ((forcesL a i).all fun x => (forcesL b i).contains x) = true := List.all_eq_true.2 fun x hx => by simpa using hf.1 x hx
    rw [hall] at kk
    simp only [ea, eb, if_true, bne_self_eq_false, Bool.or_self, Bool.false_and, Bool.or_false, Bool.false_or, Bool.and_false, kk, Option.bind_some, cond_true, harm_low ha ea, harm_low hb eb, manyT, Bool.false_eq_true, if_false]
    have e1 : decide (((forcesL b i).length : Int) < ((forcesL a i).length : Int)) = false := decide_eq_false (by have := hf.2; omega)
    have e2 : decide (((truthsC b).length : Int) < ((truthsC a).length : Int)) = false := decide_eq_false (by omega)
    have e3 : decide ((1 : Int) ≤ ((truthsC a).length : Int)) = true := decide_eq_true (by omega)
    have e4 := fmin_le_of (f := fun c => (askN (fellA b.Canopy true) b.Blows c : Int)) (g := fun c => (askN (fellA a.Canopy true) a.Blows c : Int)) (l := truthsC b) (m := truthsC a) (fun x hx => ⟨x, ht x hx, by rw [hbl, hd]; exact Int.le_refl _⟩) a.Blows.length
    have e5 := fmax_le_of (f := fun c => (askN (fellA b.Canopy false) b.Blows c : Int)) (g := fun c => (askN (fellA a.Canopy false) a.Blows c : Int)) (l := truthsC b) (m := truthsC a) (fun x hx => ⟨x, ht x hx, by rw [hbl, hd]; exact Int.le_refl _⟩) 0
    have e6 : ((b.Blows.length : Nat) : Int) = (a.Blows.length : Nat) := by rw [hbl]
    rw [e6]
    have e7 := decide_eq_true e4
    have e8 := decide_eq_true e5
    simp only [e1, e2, e3, e7, e8]
    rfl
  · rcases errR_three hb with eb | eb
    · simp [ea, eb, manyT]
    · simp [ea, eb, manyT]
end
theorem wrong_snoc (ms : List Meter) (m : Meter) (c : List Int) : wrongC (ms ++ [m]) c = wrongC ms c + (if rightC m c = true then 0 else 1) := by
  unfold wrongC
  rw [List.countP_append, List.countP_cons, List.countP_nil]
  cases h : rightC m c <;> simp
end Go.Proofs.Ytcipdblhopffbaa
end
section
namespace Go.Dec
open Go Go.RowKit

theorem Kept.plain {H : Hp} {w w' : World} (h : Kept H w w') (hh : H.hole = none) : Below w.heap.size w w' :=
  ⟨h.below.os, h.below.tape, h.below.output, h.below.size, fun k hk => h.below.block k hk (fun I e => by rw [hh] at e; cases e)⟩
theorem okWide_array {P : Program} {w : World} {r : Reach} {base : Nat} {t : TypeId} {v : Value} {n : Nat} {e : TypeId} (ht : P.underlying t = some (.array n e)) (h : Value.okWide P w r base t v) : ∃ cs, v = .agg cs ∧ cs.size = P.cellsOf t := by
  simp only [Value.okWide, ht] at h
  obtain ⟨cs, h1, h2, _⟩ := h
  exact ⟨cs, h1, h2⟩
def RArr : Rl (List Int) := fun _ cs x => cs = x.map (Value.int .i64)
theorem Opens.arr {T : Type} {enc : TypeId × Value → T} {P : Program} {t e : TypeId} {n : Nat} (ht : P.underlying t = some (.array n e)) (he : P.underlying e = some (.int .i64)) (hc : P.cellsOf e = 1) (hct : P.cellsOf t = n) : Opens enc P t n RArr (fun l => l.length = n ∧ ∀ x ∈ l, I64 x) := by
  intro w base sp held fuel cs y h
  obtain ⟨xs, m, _, rfl, hl, hlen, hel⟩ := DataW.trod_array ht h
  rw [hct] at hl
  refine ⟨hl, ?_⟩
  have each : ∀ i, i < n → ∃ x, cs[i]? = some (.int .i64 x) ∧ I64 x := fun i hi => by
    have h1 := hel i hi
    rw [hc, Nat.mul_one, List.getElem?_eq_getElem (by omega)] at h1
    obtain ⟨_, x, hx, hw⟩ := Opens.int he w base sp held m _ _ h1
    refine ⟨x, ?_, hw⟩
    have hx : (cs.drop i).take 1 = [.int .i64 x] := hx
    have h2 : ((cs.drop i).take 1)[0]? = some (.int .i64 x) := by rw [hx]; rfl
    simpa using h2
  obtain ⟨l, h1, h2⟩ := list_of n each
  refine ⟨l, ?_, h1, fun x hx => ?_⟩
  · show cs = l.map (Value.int .i64)
    apply List.ext_getElem?
    intro i
    by_cases hi : i < n
    · have e1 : l[i]? = some (l[i]'(by omega)) := List.getElem?_eq_getElem (by omega)
      rw [List.getElem?_map, e1]
      exact (h2 i _ e1).1
    · rw [List.getElem?_eq_none (by omega), List.getElem?_eq_none (by rw [List.length_map]; omega)]
  · obtain ⟨i, hi⟩ := List.mem_iff_getElem?.1 hx
    exact (h2 i x hi).2
end Go.Dec
end
section
namespace Go.Proofs.Ytcipdblhopffbaa
open Go Go.RowKit Go.Dec
set_option linter.unusedVariables false
def W_Span (x : Span) : Prop := I64 x.Low ∧ I64 x.High
set_option maxRecDepth 100000 in
theorem o_Span {T : Type} {enc : TypeId × Value → T} : Opens enc Try.prog 49 2 R_Span W_Span := by
  intro w base sp held fuel cs y h
  obtain ⟨xs, n, _, rfl, hl, hlen, hf⟩ := DataW.trod_struct Try.underlying49 h
  have hl2 : cs.length = 2 := hl.trans (by kernel_rfl)
  have hx : xs.length = 2 := hlen
  obtain ⟨c0, c1, rfl⟩ : ∃ c0 c1, cs = [c0, c1] := by
    match cs, hl2 with
    | [c0, c1], _ => exact ⟨_, _, rfl⟩
  have co3 : Try.prog.cellsOf 3 = 1 := by kernel_rfl
  have e0 : DataW.trod enc Try.prog w base sp held n 3 (([c0, c1].drop 0).take (Try.prog.cellsOf 3)) = xs[0]? := hf 0 _ rfl
  rw [co3] at e0
  obtain ⟨_, x0, r0, w0⟩ := (Opens.int (by kernel_rfl)) _ _ _ _ _ _ _ (e0.trans (List.getElem?_eq_getElem (by omega)))
  have e1 : DataW.trod enc Try.prog w base sp held n 3 (([c0, c1].drop 1).take (Try.prog.cellsOf 3)) = xs[1]? := hf 1 _ rfl
  rw [co3] at e1
  obtain ⟨_, x1, r1, w1⟩ := (Opens.int (by kernel_rfl)) _ _ _ _ _ _ _ (e1.trans (List.getElem?_eq_getElem (by omega)))
  have q0 : [c0] = [_] := r0
  cases q0
  have q1 : [c1] = [_] := r1
  cases q1
  exact ⟨rfl, ⟨x0, x1⟩, rfl, w0, w1⟩
def W_Frac (x : Frac) : Prop := I64 x.Num ∧ I64 x.Den
set_option maxRecDepth 100000 in
theorem o_Frac {T : Type} {enc : TypeId × Value → T} : Opens enc Try.prog 24 2 R_Frac W_Frac := by
  intro w base sp held fuel cs y h
  obtain ⟨xs, n, _, rfl, hl, hlen, hf⟩ := DataW.trod_struct Try.underlying24 h
  have hl2 : cs.length = 2 := hl.trans (by kernel_rfl)
  have hx : xs.length = 2 := hlen
  obtain ⟨c0, c1, rfl⟩ : ∃ c0 c1, cs = [c0, c1] := by
    match cs, hl2 with
    | [c0, c1], _ => exact ⟨_, _, rfl⟩
  have co3 : Try.prog.cellsOf 3 = 1 := by kernel_rfl
  have e0 : DataW.trod enc Try.prog w base sp held n 3 (([c0, c1].drop 0).take (Try.prog.cellsOf 3)) = xs[0]? := hf 0 _ rfl
  rw [co3] at e0
  obtain ⟨_, x0, r0, w0⟩ := (Opens.int (by kernel_rfl)) _ _ _ _ _ _ _ (e0.trans (List.getElem?_eq_getElem (by omega)))
  have e1 : DataW.trod enc Try.prog w base sp held n 3 (([c0, c1].drop 1).take (Try.prog.cellsOf 3)) = xs[1]? := hf 1 _ rfl
  rw [co3] at e1
  obtain ⟨_, x1, r1, w1⟩ := (Opens.int (by kernel_rfl)) _ _ _ _ _ _ _ (e1.trans (List.getElem?_eq_getElem (by omega)))
  have q0 : [c0] = [_] := r0
  cases q0
  have q1 : [c1] = [_] := r1
  cases q1
  exact ⟨rfl, ⟨x0, x1⟩, rfl, w0, w1⟩
def W_Section (x : Section) : Prop := W_Span x.Arm ∧ W_Span x.Stretch ∧ I64 x.Base ∧ W_Frac x.Gear
set_option maxRecDepth 100000 in
theorem o_Section {T : Type} {enc : TypeId × Value → T} : Opens enc Try.prog 129 7 R_Section W_Section := by
  intro w base sp held fuel cs y h
  obtain ⟨xs, n, _, rfl, hl, hlen, hf⟩ := DataW.trod_struct Try.underlying129 h
  have hl2 : cs.length = 7 := hl.trans (by kernel_rfl)
  have hx : xs.length = 4 := hlen
  obtain ⟨c0, c1, c2, c3, c4, c5, c6, rfl⟩ : ∃ c0 c1 c2 c3 c4 c5 c6, cs = [c0, c1, c2, c3, c4, c5, c6] := by
    match cs, hl2 with
    | [c0, c1, c2, c3, c4, c5, c6], _ => exact ⟨_, _, _, _, _, _, _, rfl⟩
  have co3 : Try.prog.cellsOf 3 = 1 := by kernel_rfl
  have co24 : Try.prog.cellsOf 24 = 2 := by kernel_rfl
  have co49 : Try.prog.cellsOf 49 = 2 := by kernel_rfl
  have e0 : DataW.trod enc Try.prog w base sp held n 49 (([c0, c1, c2, c3, c4, c5, c6].drop 0).take (Try.prog.cellsOf 49)) = xs[0]? := hf 0 _ rfl
  rw [co49] at e0
  obtain ⟨_, x0, r0, w0⟩ := o_Span _ _ _ _ _ _ _ (e0.trans (List.getElem?_eq_getElem (by omega)))
  have e1 : DataW.trod enc Try.prog w base sp held n 49 (([c0, c1, c2, c3, c4, c5, c6].drop 2).take (Try.prog.cellsOf 49)) = xs[1]? := hf 1 _ rfl
  rw [co49] at e1
  obtain ⟨_, x1, r1, w1⟩ := o_Span _ _ _ _ _ _ _ (e1.trans (List.getElem?_eq_getElem (by omega)))
  have e2 : DataW.trod enc Try.prog w base sp held n 3 (([c0, c1, c2, c3, c4, c5, c6].drop 4).take (Try.prog.cellsOf 3)) = xs[2]? := hf 2 _ rfl
  rw [co3] at e2
  obtain ⟨_, x2, r2, w2⟩ := (Opens.int (by kernel_rfl)) _ _ _ _ _ _ _ (e2.trans (List.getElem?_eq_getElem (by omega)))
  have e3 : DataW.trod enc Try.prog w base sp held n 24 (([c0, c1, c2, c3, c4, c5, c6].drop 5).take (Try.prog.cellsOf 24)) = xs[3]? := hf 3 _ rfl
  rw [co24] at e3
  obtain ⟨_, x3, r3, w3⟩ := o_Frac _ _ _ _ _ _ _ (e3.trans (List.getElem?_eq_getElem (by omega)))
  have q0 : [c0, c1] = _ := r0
  cases q0
  have q1 : [c2, c3] = _ := r1
  cases q1
  have q2 : [c4] = [_] := r2
  cases q2
  have q3 : [c5, c6] = _ := r3
  cases q3
  exact ⟨rfl, ⟨x0, x1, x2, x3⟩, rfl, w0, w1, w2, w3⟩
def W_Frame (x : Frame) : Prop := (fun (l : List Section) => (∀ x ∈ l, W_Section x) ∧ l.length ≤ 9223372036854775807) x.Sections ∧ I64 x.Low ∧ I64 x.High ∧ W_Frac x.Ease ∧ I64 x.Rod ∧ I64 x.Case
set_option maxRecDepth 100000 in
theorem o_Frame {T : Type} {enc : TypeId × Value → T} : Opens enc Try.prog 26 7 R_Frame W_Frame := by
  intro w base sp held fuel cs y h
  obtain ⟨xs, n, _, rfl, hl, hlen, hf⟩ := DataW.trod_struct Try.underlying26 h
  have hl2 : cs.length = 7 := hl.trans (by kernel_rfl)
  have hx : xs.length = 6 := hlen
  obtain ⟨c0, c1, c2, c3, c4, c5, c6, rfl⟩ : ∃ c0 c1 c2 c3 c4 c5 c6, cs = [c0, c1, c2, c3, c4, c5, c6] := by
    match cs, hl2 with
    | [c0, c1, c2, c3, c4, c5, c6], _ => exact ⟨_, _, _, _, _, _, _, rfl⟩
  have co3 : Try.prog.cellsOf 3 = 1 := by kernel_rfl
  have co22 : Try.prog.cellsOf 22 = 1 := by kernel_rfl
  have co24 : Try.prog.cellsOf 24 = 2 := by kernel_rfl
  have e0 : DataW.trod enc Try.prog w base sp held n 22 (([c0, c1, c2, c3, c4, c5, c6].drop 0).take (Try.prog.cellsOf 22)) = xs[0]? := hf 0 _ rfl
  rw [co22] at e0
  obtain ⟨_, x0, r0, w0⟩ := (Opens.slice (e := 129) (sz := 7) (by kernel_rfl) (by kernel_rfl) rfl o_Section) _ _ _ _ _ _ _ (e0.trans (List.getElem?_eq_getElem (by omega)))
  have e1 : DataW.trod enc Try.prog w base sp held n 3 (([c0, c1, c2, c3, c4, c5, c6].drop 1).take (Try.prog.cellsOf 3)) = xs[1]? := hf 1 _ rfl
  rw [co3] at e1
  obtain ⟨_, x1, r1, w1⟩ := (Opens.int (by kernel_rfl)) _ _ _ _ _ _ _ (e1.trans (List.getElem?_eq_getElem (by omega)))
  have e2 : DataW.trod enc Try.prog w base sp held n 3 (([c0, c1, c2, c3, c4, c5, c6].drop 2).take (Try.prog.cellsOf 3)) = xs[2]? := hf 2 _ rfl
  rw [co3] at e2
  obtain ⟨_, x2, r2, w2⟩ := (Opens.int (by kernel_rfl)) _ _ _ _ _ _ _ (e2.trans (List.getElem?_eq_getElem (by omega)))
  have e3 : DataW.trod enc Try.prog w base sp held n 24 (([c0, c1, c2, c3, c4, c5, c6].drop 3).take (Try.prog.cellsOf 24)) = xs[3]? := hf 3 _ rfl
  rw [co24] at e3
  obtain ⟨_, x3, r3, w3⟩ := o_Frac _ _ _ _ _ _ _ (e3.trans (List.getElem?_eq_getElem (by omega)))
  have e4 : DataW.trod enc Try.prog w base sp held n 3 (([c0, c1, c2, c3, c4, c5, c6].drop 5).take (Try.prog.cellsOf 3)) = xs[4]? := hf 4 _ rfl
  rw [co3] at e4
  obtain ⟨_, x4, r4, w4⟩ := (Opens.int (by kernel_rfl)) _ _ _ _ _ _ _ (e4.trans (List.getElem?_eq_getElem (by omega)))
  have e5 : DataW.trod enc Try.prog w base sp held n 3 (([c0, c1, c2, c3, c4, c5, c6].drop 6).take (Try.prog.cellsOf 3)) = xs[5]? := hf 5 _ rfl
  rw [co3] at e5
  obtain ⟨_, x5, r5, w5⟩ := (Opens.int (by kernel_rfl)) _ _ _ _ _ _ _ (e5.trans (List.getElem?_eq_getElem (by omega)))
  obtain ⟨v0, q0, s0⟩ := r0
  have q0 : [c0] = [v0] := q0
  cases q0
  have q1 : [c1] = [_] := r1
  cases q1
  have q2 : [c2] = [_] := r2
  cases q2
  have q3 : [c3, c4] = _ := r3
  cases q3
  have q4 : [c5] = [_] := r4
  cases q4
  have q5 : [c6] = [_] := r5
  cases q5
  exact ⟨rfl, ⟨x0, x1, x2, x3, x4, x5⟩, ⟨c0, rfl, s0⟩, w0, w1, w2, w3, w4, w5⟩
def W_Canopy (x : Canopy) : Prop := W_Frame x.Frame ∧ (fun (l : List Span) => (∀ x ∈ l, W_Span x) ∧ l.length ≤ 9223372036854775807) x.Ribs ∧ (fun (l : List Int) => (∀ x ∈ l, I64 x) ∧ l.length ≤ 9223372036854775807) x.Shares
set_option maxRecDepth 100000 in
theorem o_Canopy {T : Type} {enc : TypeId × Value → T} : Opens enc Try.prog 30 9 R_Canopy W_Canopy := by
  intro w base sp held fuel cs y h
  obtain ⟨xs, n, _, rfl, hl, hlen, hf⟩ := DataW.trod_struct Try.underlying30 h
  have hl2 : cs.length = 9 := hl.trans (by kernel_rfl)
  have hx : xs.length = 3 := hlen
  obtain ⟨c0, c1, c2, c3, c4, c5, c6, c7, c8, rfl⟩ : ∃ c0 c1 c2 c3 c4 c5 c6 c7 c8, cs = [c0, c1, c2, c3, c4, c5, c6, c7, c8] := by
    match cs, hl2 with
    | [c0, c1, c2, c3, c4, c5, c6, c7, c8], _ => exact ⟨_, _, _, _, _, _, _, _, _, rfl⟩
  have co26 : Try.prog.cellsOf 26 = 7 := by kernel_rfl
  have co27 : Try.prog.cellsOf 27 = 1 := by kernel_rfl
  have co28 : Try.prog.cellsOf 28 = 1 := by kernel_rfl
  have e0 : DataW.trod enc Try.prog w base sp held n 26 (([c0, c1, c2, c3, c4, c5, c6, c7, c8].drop 0).take (Try.prog.cellsOf 26)) = xs[0]? := hf 0 _ rfl
  rw [co26] at e0
  obtain ⟨_, x0, r0, w0⟩ := o_Frame _ _ _ _ _ _ _ (e0.trans (List.getElem?_eq_getElem (by omega)))
  have e1 : DataW.trod enc Try.prog w base sp held n 27 (([c0, c1, c2, c3, c4, c5, c6, c7, c8].drop 7).take (Try.prog.cellsOf 27)) = xs[1]? := hf 1 _ rfl
  rw [co27] at e1
  obtain ⟨_, x1, r1, w1⟩ := (Opens.slice (e := 49) (sz := 2) (by kernel_rfl) (by kernel_rfl) rfl o_Span) _ _ _ _ _ _ _ (e1.trans (List.getElem?_eq_getElem (by omega)))
  have e2 : DataW.trod enc Try.prog w base sp held n 28 (([c0, c1, c2, c3, c4, c5, c6, c7, c8].drop 8).take (Try.prog.cellsOf 28)) = xs[2]? := hf 2 _ rfl
  rw [co28] at e2
  obtain ⟨_, x2, r2, w2⟩ := (Opens.slice (e := 3) (sz := 1) (by kernel_rfl) (by kernel_rfl) rfl (Opens.int (by kernel_rfl))) _ _ _ _ _ _ _ (e2.trans (List.getElem?_eq_getElem (by omega)))
  obtain ⟨v0_0, q0, s0_0⟩ := r0
  cases q0
  obtain ⟨v1, q1, s1⟩ := r1
  have q1 : [c7] = [v1] := q1
  cases q1
  obtain ⟨v2, q2, s2⟩ := r2
  have q2 : [c8] = [v2] := q2
  cases q2
  exact ⟨rfl, ⟨x0, x1, x2⟩, ⟨c0, c7, c8, rfl, s0_0, s1, s2⟩, w0, w1, w2⟩
def W_Blow (x : Blow) : Prop := I64 x.At ∧ W_Span x.Force
set_option maxRecDepth 100000 in
theorem o_Blow {T : Type} {enc : TypeId × Value → T} : Opens enc Try.prog 56 3 R_Blow W_Blow := by
  intro w base sp held fuel cs y h
  obtain ⟨xs, n, _, rfl, hl, hlen, hf⟩ := DataW.trod_struct Try.underlying56 h
  have hl2 : cs.length = 3 := hl.trans (by kernel_rfl)
  have hx : xs.length = 2 := hlen
  obtain ⟨c0, c1, c2, rfl⟩ : ∃ c0 c1 c2, cs = [c0, c1, c2] := by
    match cs, hl2 with
    | [c0, c1, c2], _ => exact ⟨_, _, _, rfl⟩
  have co3 : Try.prog.cellsOf 3 = 1 := by kernel_rfl
  have co49 : Try.prog.cellsOf 49 = 2 := by kernel_rfl
  have e0 : DataW.trod enc Try.prog w base sp held n 3 (([c0, c1, c2].drop 0).take (Try.prog.cellsOf 3)) = xs[0]? := hf 0 _ rfl
  rw [co3] at e0
  obtain ⟨_, x0, r0, w0⟩ := (Opens.int (by kernel_rfl)) _ _ _ _ _ _ _ (e0.trans (List.getElem?_eq_getElem (by omega)))
  have e1 : DataW.trod enc Try.prog w base sp held n 49 (([c0, c1, c2].drop 1).take (Try.prog.cellsOf 49)) = xs[1]? := hf 1 _ rfl
  rw [co49] at e1
  obtain ⟨_, x1, r1, w1⟩ := o_Span _ _ _ _ _ _ _ (e1.trans (List.getElem?_eq_getElem (by omega)))
  have q0 : [c0] = [_] := r0
  cases q0
  have q1 : [c1, c2] = _ := r1
  cases q1
  exact ⟨rfl, ⟨x0, x1⟩, rfl, w0, w1⟩
def W_Meter (x : Meter) : Prop := I64 x.Limit ∧ I64 x.Count
set_option maxRecDepth 100000 in
theorem o_Meter {T : Type} {enc : TypeId × Value → T} : Opens enc Try.prog 36 2 R_Meter W_Meter := by
  intro w base sp held fuel cs y h
  obtain ⟨xs, n, _, rfl, hl, hlen, hf⟩ := DataW.trod_struct Try.underlying36 h
  have hl2 : cs.length = 2 := hl.trans (by kernel_rfl)
  have hx : xs.length = 2 := hlen
  obtain ⟨c0, c1, rfl⟩ : ∃ c0 c1, cs = [c0, c1] := by
    match cs, hl2 with
    | [c0, c1], _ => exact ⟨_, _, rfl⟩
  have co3 : Try.prog.cellsOf 3 = 1 := by kernel_rfl
  have e0 : DataW.trod enc Try.prog w base sp held n 3 (([c0, c1].drop 0).take (Try.prog.cellsOf 3)) = xs[0]? := hf 0 _ rfl
  rw [co3] at e0
  obtain ⟨_, x0, r0, w0⟩ := (Opens.int (by kernel_rfl)) _ _ _ _ _ _ _ (e0.trans (List.getElem?_eq_getElem (by omega)))
  have e1 : DataW.trod enc Try.prog w base sp held n 3 (([c0, c1].drop 1).take (Try.prog.cellsOf 3)) = xs[1]? := hf 1 _ rfl
  rw [co3] at e1
  obtain ⟨_, x1, r1, w1⟩ := (Opens.int (by kernel_rfl)) _ _ _ _ _ _ _ (e1.trans (List.getElem?_eq_getElem (by omega)))
  have q0 : [c0] = [_] := r0
  cases q0
  have q1 : [c1] = [_] := r1
  cases q1
  exact ⟨rfl, ⟨x0, x1⟩, rfl, w0, w1⟩
def W_Run (x : Run) : Prop := W_Canopy x.Canopy ∧ (fun (l : List Blow) => (∀ x ∈ l, W_Blow x) ∧ l.length ≤ 9223372036854775807) x.Blows ∧ (fun (l : List Meter) => (∀ x ∈ l, W_Meter x) ∧ l.length ≤ 9223372036854775807) x.Meters ∧ I64 x.Wrong
set_option maxRecDepth 100000 in
theorem o_Run {T : Type} {enc : TypeId × Value → T} : Opens enc Try.prog 34 12 R_Run W_Run := by
  intro w base sp held fuel cs y h
  obtain ⟨xs, n, _, rfl, hl, hlen, hf⟩ := DataW.trod_struct Try.underlying34 h
  have hl2 : cs.length = 12 := hl.trans (by kernel_rfl)
  have hx : xs.length = 4 := hlen
  obtain ⟨c0, c1, c2, c3, c4, c5, c6, c7, c8, c9, c10, c11, rfl⟩ : ∃ c0 c1 c2 c3 c4 c5 c6 c7 c8 c9 c10 c11, cs = [c0, c1, c2, c3, c4, c5, c6, c7, c8, c9, c10, c11] := by
    match cs, hl2 with
    | [c0, c1, c2, c3, c4, c5, c6, c7, c8, c9, c10, c11], _ => exact ⟨_, _, _, _, _, _, _, _, _, _, _, _, rfl⟩
  have co3 : Try.prog.cellsOf 3 = 1 := by kernel_rfl
  have co30 : Try.prog.cellsOf 30 = 9 := by kernel_rfl
  have co31 : Try.prog.cellsOf 31 = 1 := by kernel_rfl
  have co32 : Try.prog.cellsOf 32 = 1 := by kernel_rfl
  have e0 : DataW.trod enc Try.prog w base sp held n 30 (([c0, c1, c2, c3, c4, c5, c6, c7, c8, c9, c10, c11].drop 0).take (Try.prog.cellsOf 30)) = xs[0]? := hf 0 _ rfl
  rw [co30] at e0
  obtain ⟨_, x0, r0, w0⟩ := o_Canopy _ _ _ _ _ _ _ (e0.trans (List.getElem?_eq_getElem (by omega)))
  have e1 : DataW.trod enc Try.prog w base sp held n 31 (([c0, c1, c2, c3, c4, c5, c6, c7, c8, c9, c10, c11].drop 9).take (Try.prog.cellsOf 31)) = xs[1]? := hf 1 _ rfl
  rw [co31] at e1
  obtain ⟨_, x1, r1, w1⟩ := (Opens.slice (e := 56) (sz := 3) (by kernel_rfl) (by kernel_rfl) rfl o_Blow) _ _ _ _ _ _ _ (e1.trans (List.getElem?_eq_getElem (by omega)))
  have e2 : DataW.trod enc Try.prog w base sp held n 32 (([c0, c1, c2, c3, c4, c5, c6, c7, c8, c9, c10, c11].drop 10).take (Try.prog.cellsOf 32)) = xs[2]? := hf 2 _ rfl
  rw [co32] at e2
  obtain ⟨_, x2, r2, w2⟩ := (Opens.slice (e := 36) (sz := 2) (by kernel_rfl) (by kernel_rfl) rfl o_Meter) _ _ _ _ _ _ _ (e2.trans (List.getElem?_eq_getElem (by omega)))
  have e3 : DataW.trod enc Try.prog w base sp held n 3 (([c0, c1, c2, c3, c4, c5, c6, c7, c8, c9, c10, c11].drop 11).take (Try.prog.cellsOf 3)) = xs[3]? := hf 3 _ rfl
  rw [co3] at e3
  obtain ⟨_, x3, r3, w3⟩ := (Opens.int (by kernel_rfl)) _ _ _ _ _ _ _ (e3.trans (List.getElem?_eq_getElem (by omega)))
  obtain ⟨v0_0, v0_7, v0_8, q0, s0_0, s0_7, s0_8⟩ := r0
  cases q0
  obtain ⟨v1, q1, s1⟩ := r1
  have q1 : [c9] = [v1] := q1
  cases q1
  obtain ⟨v2, q2, s2⟩ := r2
  have q2 : [c10] = [v2] := q2
  cases q2
  have q3 : [c11] = [_] := r3
  cases q3
  exact ⟨rfl, ⟨x0, x1, x2, x3⟩, ⟨c0, c7, c8, c9, c10, rfl, s0_0, s0_7, s0_8, s1, s2⟩, w0, w1, w2, w3⟩
def W_law13_Stronger (x : law13_Stronger) : Prop := I64 x.Rib ∧ I64 x.By ∧ I64 x.Blow
set_option maxRecDepth 100000 in
theorem o_law13_Stronger {T : Type} {enc : TypeId × Value → T} : Opens enc Try.prog 43 3 R_law13_Stronger W_law13_Stronger := by
  intro w base sp held fuel cs y h
  obtain ⟨xs, n, _, rfl, hl, hlen, hf⟩ := DataW.trod_struct Try.underlying43 h
  have hl2 : cs.length = 3 := hl.trans (by kernel_rfl)
  have hx : xs.length = 3 := hlen
  obtain ⟨c0, c1, c2, rfl⟩ : ∃ c0 c1 c2, cs = [c0, c1, c2] := by
    match cs, hl2 with
    | [c0, c1, c2], _ => exact ⟨_, _, _, rfl⟩
  have co3 : Try.prog.cellsOf 3 = 1 := by kernel_rfl
  have e0 : DataW.trod enc Try.prog w base sp held n 3 (([c0, c1, c2].drop 0).take (Try.prog.cellsOf 3)) = xs[0]? := hf 0 _ rfl
  rw [co3] at e0
  obtain ⟨_, x0, r0, w0⟩ := (Opens.int (by kernel_rfl)) _ _ _ _ _ _ _ (e0.trans (List.getElem?_eq_getElem (by omega)))
  have e1 : DataW.trod enc Try.prog w base sp held n 3 (([c0, c1, c2].drop 1).take (Try.prog.cellsOf 3)) = xs[1]? := hf 1 _ rfl
  rw [co3] at e1
  obtain ⟨_, x1, r1, w1⟩ := (Opens.int (by kernel_rfl)) _ _ _ _ _ _ _ (e1.trans (List.getElem?_eq_getElem (by omega)))
  have e2 : DataW.trod enc Try.prog w base sp held n 3 (([c0, c1, c2].drop 2).take (Try.prog.cellsOf 3)) = xs[2]? := hf 2 _ rfl
  rw [co3] at e2
  obtain ⟨_, x2, r2, w2⟩ := (Opens.int (by kernel_rfl)) _ _ _ _ _ _ _ (e2.trans (List.getElem?_eq_getElem (by omega)))
  have q0 : [c0] = [_] := r0
  cases q0
  have q1 : [c1] = [_] := r1
  cases q1
  have q2 : [c2] = [_] := r2
  cases q2
  exact ⟨rfl, ⟨x0, x1, x2⟩, rfl, w0, w1, w2⟩
def W_law13_Ask (x : law13_Ask) : Prop := I64 x.Blow ∧ I64 x.Meter ∧ I64 x.Limit
set_option maxRecDepth 100000 in
theorem o_law13_Ask {T : Type} {enc : TypeId × Value → T} : Opens enc Try.prog 67 3 R_law13_Ask W_law13_Ask := by
  intro w base sp held fuel cs y h
  obtain ⟨xs, n, _, rfl, hl, hlen, hf⟩ := DataW.trod_struct Try.underlying67 h
  have hl2 : cs.length = 3 := hl.trans (by kernel_rfl)
  have hx : xs.length = 3 := hlen
  obtain ⟨c0, c1, c2, rfl⟩ : ∃ c0 c1 c2, cs = [c0, c1, c2] := by
    match cs, hl2 with
    | [c0, c1, c2], _ => exact ⟨_, _, _, rfl⟩
  have co3 : Try.prog.cellsOf 3 = 1 := by kernel_rfl
  have e0 : DataW.trod enc Try.prog w base sp held n 3 (([c0, c1, c2].drop 0).take (Try.prog.cellsOf 3)) = xs[0]? := hf 0 _ rfl
  rw [co3] at e0
  obtain ⟨_, x0, r0, w0⟩ := (Opens.int (by kernel_rfl)) _ _ _ _ _ _ _ (e0.trans (List.getElem?_eq_getElem (by omega)))
  have e1 : DataW.trod enc Try.prog w base sp held n 3 (([c0, c1, c2].drop 1).take (Try.prog.cellsOf 3)) = xs[1]? := hf 1 _ rfl
  rw [co3] at e1
  obtain ⟨_, x1, r1, w1⟩ := (Opens.int (by kernel_rfl)) _ _ _ _ _ _ _ (e1.trans (List.getElem?_eq_getElem (by omega)))
  have e2 : DataW.trod enc Try.prog w base sp held n 3 (([c0, c1, c2].drop 2).take (Try.prog.cellsOf 3)) = xs[2]? := hf 2 _ rfl
  rw [co3] at e2
  obtain ⟨_, x2, r2, w2⟩ := (Opens.int (by kernel_rfl)) _ _ _ _ _ _ _ (e2.trans (List.getElem?_eq_getElem (by omega)))
  have q0 : [c0] = [_] := r0
  cases q0
  have q1 : [c1] = [_] := r1
  cases q1
  have q2 : [c2] = [_] := r2
  cases q2
  exact ⟨rfl, ⟨x0, x1, x2⟩, rfl, w0, w1, w2⟩
end Go.Proofs.Ytcipdblhopffbaa
end
section
namespace Go.Proofs.Ytcipdblhopffbaa
open Go Go.RowKit Go.Dec
set_option linter.unusedVariables false
-- 7 ferrule/ferrulelaw13.CountsLiars
noncomputable def F_law13_CountsLiars_s1 (n : Nat) (r : Run) (y6 : Int × Int) : Int × Int → Option ((Int × Int) ⊕ (Bool ⊕ Int))
 | (never_96, i_97) => if decide (i_97 < (r.Meters.length : Int)) = true then ((F_counts_Right n r i_97).bind fun y102 => if (y102.2 != y6.2) = true then (some (Sum.inr (Sum.inl false))) else ((if ((y102.2 == 0) && (y102.1 == 2)) = true then (some (w64 (never_96 + 1))) else (some never_96)).bind fun never_107 => some (Sum.inl (never_107, (w64 (i_97 + 1)))))) else (some (Sum.inr (Sum.inr never_96)))
noncomputable def F_law13_CountsLiars (n : Nat) (r : Run) (meter : Int) : Option Bool :=
 (F_law13_ready n r).bind fun y2 => if (!y2) = true then ((F_law13_works n).bind fun y4 => some y4) else ((F_counts_Fewest n r).bind fun y5 => (F_counts_Many n r).bind fun y6 => if ((((((y5.2 != 0) || (decide (y5.1 < 0))) || (decide ((r.Meters.length : Int) < y5.1))) || ((y6.2 == 0) != (decide (y5.1 ≤ r.Wrong)))) || ((y6.2 != 0) && (y6.2 != 3))) || ((y6.2 == 0) && (decide (y6.1 < 1)))) = true then (some false) else ((loopO n (F_law13_CountsLiars_s1 n r y6) (0, 0)).bind fun r69 => match r69 with | .inl o => some o | .inr never_67 => if decide (r.Wrong < never_67) = true then (some false) else (if ((decide (meter < 0)) || (decide ((r.Meters.length : Int) ≤ meter))) = true then ((F_law13_works n).bind fun y115 => some y115) else ((F_ref13_Copy n r).bind fun y116 => (slc y116.Meters 0 meter).bind fun y130 => (slc r.Meters (w64 (meter + 1)) r.Meters.length).bind fun y134 => (lim (y130 ++ y134)).bind fun l137 => (F_counts_Fewest n (Run.mk y116.Canopy y116.Blows l137 y116.Wrong)).bind fun y196 => (if ((y196.2 == 0) && ((y196.1 == y5.1) || (y196.1 == (w64 (y5.1 - 1))))) = true then ((F_law13_works n).bind fun y207 => some y207) else (some false) : Option Bool).bind fun p204 => some p204))))
set_option maxRecDepth 100000 in
set_option maxHeartbeats 40000000 in
theorem c_law13_CountsLiars (n : Nat) (H : Hp) (r : Run) (r_v0 : Value) (hr_0 : SL H 7 R_Section r_v0 r.Canopy.Frame.Sections) (r_v7 : Value) (hr_7 : SL H 2 R_Span r_v7 r.Canopy.Ribs) (r_v8 : Value) (hr_8 : SL H 1 RInt r_v8 r.Canopy.Shares) (r_v9 : Value) (hr_9 : SL H 3 R_Blow r_v9 r.Blows) (r_v10 : Value) (hr_10 : SL H 2 R_Meter r_v10 r.Meters) (meter : Int) (y : Bool) (hF : F_law13_CountsLiars n r meter = some y) : SC Try.prog 7 [.agg [r_v0, .int .i64 r.Canopy.Frame.Low, .int .i64 r.Canopy.Frame.High, .int .i64 r.Canopy.Frame.Ease.Num, .int .i64 r.Canopy.Frame.Ease.Den, .int .i64 r.Canopy.Frame.Rod, .int .i64 r.Canopy.Frame.Case, r_v7, r_v8, r_v9, r_v10, .int .i64 r.Wrong].toArray, .int .i64 meter] (.bool y) H := by
 rw [F_law13_CountsLiars] at hF
 refine SC.of (N := 140) Try.func7 rfl rfl rfl fun w => ?_
 refine JC.seq ?_
 refine JC.region (by rfl) ?_
 intro hQ
 refine JL.box (cs := [r_v0, .int .i64 r.Canopy.Frame.Low, .int .i64 r.Canopy.Frame.High, .int .i64 r.Canopy.Frame.Ease.Num, .int .i64 r.Canopy.Frame.Ease.Den, .int .i64 r.Canopy.Frame.Rod, .int .i64 r.Canopy.Frame.Case, r_v7, r_v8, r_v9, r_v10, .int .i64 r.Wrong]) rfl .none rfl ?_
 intro b1
 refine JL.assign .none rfl ?_
 refine JL.done hQ ?_
 refine JQ.go ?_
 refine JC.seq ?_
 refine JC.seq ?_
 refine JC.region (by rfl) ?_
 intro hQ
 refine JL.loadOwn 0 az_34 rfl rfl rfl .none rfl ?_
 obtain ⟨y2, hy2, hF⟩ := bind_some hF
 refine JL.callS (c_law13_ready n H r r_v0 hr_0 r_v7 hr_7 r_v8 hr_8 r_v9 hr_9 r_v10 hr_10 y2 hy2) rfl en_8 .none rfl ?_
 refine JL.not rfl .none rfl ?_
 refine JL.done hQ ?_
 refine JQ.go ?_
 rcases ite_some hF with ⟨hc3, hF⟩ | ⟨hc3, hF⟩
 ·refine JC.cond_t (b := (!y2)) rfl hc3 ?_
  refine JC.seq ?_
  refine JC.region (by rfl) ?_
  intro hQ
  obtain ⟨y4, hy4, hF⟩ := bind_some hF
  refine JL.callS (c_law13_works n H y4 hy4) rfl en_9 .none rfl ?_
  refine JL.assign .none rfl ?_
  refine JL.done hQ ?_
  refine JQ.go ?_
  refine JC.ret ?_
  refine JQ.ret_then ?_
  obtain rfl := Option.some.inj hF
  exact JQ.outS rfl (.tmp .nil) rfl
 ·refine JC.cond_f (b := (!y2)) rfl hc3 ?_
  refine JC.skip ?_
  refine JQ.go ?_
  refine JC.seq ?_
  refine JC.region (by rfl) ?_
  intro hQ
  refine JL.loadOwn 0 az_34 rfl rfl rfl .none rfl ?_
  obtain ⟨y5, hy5, hF⟩ := bind_some hF
  refine JL.callS (c_counts_Fewest n H r r_v0 hr_0 r_v7 hr_7 r_v8 hr_8 r_v9 hr_9 r_v10 hr_10 y5 hy5) rfl en_21 .none rfl ?_
  refine JL.move .none rfl ?_
  refine JL.extract rfl rfl .none rfl ?_
  refine JL.extract rfl rfl .none rfl ?_
  refine JL.assign .none rfl ?_
  refine JL.assign .none rfl ?_
  refine JL.done hQ ?_
  refine JQ.go ?_
  refine JC.fresh (fun f => f 1 = .int .i64 meter ∧ f 2 = .pointer (some ⟨b1, 0, none⟩) ∧ f 4 = .bool false ∧ f 5 = .int .i64 y5.1 ∧ f 6 = .int .i64 y5.2) ⟨rfl, rfl, rfl, rfl, rfl⟩ ?_
  rintro f ⟨hf1, hf2, hf4, hf5, hf6⟩
  refine (JC.norm (i := 1) hf1 (JC.norm (i := 2) hf2 (JC.norm (i := 4) hf4 (JC.norm (i := 5) hf5 (JC.norm (i := 6) hf6 ?_)))))
  refine JC.seq ?_
  refine JC.region (by rfl) ?_
  intro hQ
  refine JL.loadOwn 0 az_34 rfl rfl rfl .none rfl ?_
  obtain ⟨y6, hy6, hF⟩ := bind_some hF
  refine JL.callS (c_counts_Many n H r r_v0 hr_0 r_v7 hr_7 r_v8 hr_8 r_v9 hr_9 r_v10 hr_10 y6 hy6) rfl en_18 .none rfl ?_
  refine JL.move .none rfl ?_
  refine JL.extract rfl rfl .none rfl ?_
  refine JL.extract rfl rfl .none rfl ?_
  refine JL.assign .none rfl ?_
  refine JL.assign .none rfl ?_
  refine JL.done hQ ?_
  refine JQ.go ?_
  refine JC.seq ?_
  refine JC.seq ?_
  refine JC.region (by rfl) ?_
  intro hQ
  refine JL.move .none rfl ?_
  refine JL.bin rfl rfl rfl .none rfl ?_
  refine JL.move .none rfl ?_
  refine JL.cut 3 (fun f => f 1 = .int .i64 meter ∧ f 2 = .pointer (some ⟨b1, 0, none⟩) ∧ f 5 = .int .i64 y5.1 ∧ f 7 = .int .i64 y6.1 ∧ f 8 = .int .i64 y6.2 ∧ f 35 = .bool ((y5.2 != 0) || (decide (y5.1 < 0)))) ?_ ?_
  ·intro hJ7
   rcases bcases (y5.2 != 0) with hc8 | hc8
   ·skip
    refine JL.skip (.bool rfl rfl rfl hc8) rfl ?_
    refine JL.skip (.bool rfl rfl rfl hc8) rfl ?_
    refine JL.pick_t (b := (y5.2 != 0)) rfl hc8 .none rfl ?_
    exact hJ7 _ ⟨rfl, rfl, rfl, rfl, rfl, or_t hc8 rfl⟩
   ·skip
    refine JL.move (.some rfl rfl rfl hc8) rfl ?_
    refine JL.bin rfl rfl rfl (.some rfl rfl rfl hc8) rfl ?_
    refine JL.pick_f (b := (y5.2 != 0)) rfl hc8 .none rfl ?_
    exact hJ7 _ ⟨rfl, rfl, rfl, rfl, rfl, or_f hc8 rfl⟩
  ·rintro f ⟨hf1, hf2, hf5, hf7, hf8, hf35⟩
   refine (JL.norm (i := 1) hf1 (JL.norm (i := 2) hf2 (JL.norm (i := 5) hf5 (JL.norm (i := 7) hf7 (JL.norm (i := 8) hf8 (JL.norm (i := 35) hf35 ?_))))))
   refine JL.move .none rfl ?_
   refine JL.cut 6 (fun f => f 1 = .int .i64 meter ∧ f 2 = .pointer (some ⟨b1, 0, none⟩) ∧ f 5 = .int .i64 y5.1 ∧ f 7 = .int .i64 y6.1 ∧ f 8 = .int .i64 y6.2 ∧ f 42 = .bool (((y5.2 != 0) || (decide (y5.1 < 0))) || (decide ((r.Meters.length : Int) < y5.1)))) ?_ ?_
   ·intro hJ9
    rcases bcases ((y5.2 != 0) || (decide (y5.1 < 0))) with hc10 | hc10
    ·skip
     refine JL.skip (.bool rfl rfl rfl hc10) rfl ?_
     refine JL.skip (.bool rfl rfl rfl hc10) rfl ?_
     refine JL.skip (.bool rfl rfl rfl hc10) rfl ?_
     refine JL.skip (.bool rfl rfl rfl hc10) rfl ?_
     refine JL.skip (.bool rfl rfl rfl hc10) rfl ?_
     refine JL.pick_t (b := ((y5.2 != 0) || (decide (y5.1 < 0)))) rfl hc10 .none rfl ?_
     exact hJ9 _ ⟨rfl, rfl, rfl, rfl, rfl, or_t hc10 rfl⟩
    ·skip
     refine JL.move (.some rfl rfl rfl hc10) rfl ?_
     refine JL.fieldAddr fo_34_2 rfl (.some rfl rfl rfl hc10) rfl ?_
     refine JL.loadOwn 0 az_32 rfl rfl rfl (.some rfl rfl rfl hc10) rfl ?_
     refine JL.lenSL (R := R_Meter) ul_32 hr_10 (.some rfl rfl rfl hc10) rfl ?_
     refine JL.bin rfl rfl rfl (.some rfl rfl rfl hc10) rfl ?_
     refine JL.pick_f (b := ((y5.2 != 0) || (decide (y5.1 < 0)))) rfl hc10 .none rfl ?_
     exact hJ9 _ ⟨rfl, rfl, rfl, rfl, rfl, or_f hc10 rfl⟩
   ·rintro f ⟨hf1, hf2, hf5, hf7, hf8, hf42⟩
    refine (JL.norm (i := 1) hf1 (JL.norm (i := 2) hf2 (JL.norm (i := 5) hf5 (JL.norm (i := 7) hf7 (JL.norm (i := 8) hf8 (JL.norm (i := 42) hf42 ?_))))))
    refine JL.move .none rfl ?_
    refine JL.cut 8 (fun f => f 1 = .int .i64 meter ∧ f 2 = .pointer (some ⟨b1, 0, none⟩) ∧ f 5 = .int .i64 y5.1 ∧ f 7 = .int .i64 y6.1 ∧ f 8 = .int .i64 y6.2 ∧ f 51 = .bool ((((y5.2 != 0) || (decide (y5.1 < 0))) || (decide ((r.Meters.length : Int) < y5.1))) || ((y6.2 == 0) != (decide (y5.1 ≤ r.Wrong))))) ?_ ?_
    ·intro hJ11
     rcases bcases (((y5.2 != 0) || (decide (y5.1 < 0))) || (decide ((r.Meters.length : Int) < y5.1))) with hc12 | hc12
     ·skip
      refine JL.skip (.bool rfl rfl rfl hc12) rfl ?_
      refine JL.skip (.bool rfl rfl rfl hc12) rfl ?_
      refine JL.skip (.bool rfl rfl rfl hc12) rfl ?_
      refine JL.skip (.bool rfl rfl rfl hc12) rfl ?_
      refine JL.skip (.bool rfl rfl rfl hc12) rfl ?_
      refine JL.skip (.bool rfl rfl rfl hc12) rfl ?_
      refine JL.skip (.bool rfl rfl rfl hc12) rfl ?_
      refine JL.pick_t (b := (((y5.2 != 0) || (decide (y5.1 < 0))) || (decide ((r.Meters.length : Int) < y5.1)))) rfl hc12 .none rfl ?_
      exact hJ11 _ ⟨rfl, rfl, rfl, rfl, rfl, or_t hc12 rfl⟩
     ·skip
      refine JL.move (.some rfl rfl rfl hc12) rfl ?_
      refine JL.bin rfl rfl rfl (.some rfl rfl rfl hc12) rfl ?_
      refine JL.move (.some rfl rfl rfl hc12) rfl ?_
      refine JL.fieldAddr fo_34_3 rfl (.some rfl rfl rfl hc12) rfl ?_
      refine JL.loadOwn 0 az_3 rfl rfl rfl (.some rfl rfl rfl hc12) rfl ?_
      refine JL.bin rfl rfl rfl (.some rfl rfl rfl hc12) rfl ?_
      refine JL.neBool ub_4 rfl rfl (.some rfl rfl rfl hc12) rfl ?_
      refine JL.pick_f (b := (((y5.2 != 0) || (decide (y5.1 < 0))) || (decide ((r.Meters.length : Int) < y5.1)))) rfl hc12 .none rfl ?_
      exact hJ11 _ ⟨rfl, rfl, rfl, rfl, rfl, or_f hc12 rfl⟩
    ·rintro f ⟨hf1, hf2, hf5, hf7, hf8, hf51⟩
     refine (JL.norm (i := 1) hf1 (JL.norm (i := 2) hf2 (JL.norm (i := 5) hf5 (JL.norm (i := 7) hf7 (JL.norm (i := 8) hf8 (JL.norm (i := 51) hf51 ?_))))))
     refine JL.move .none rfl ?_
     refine JL.cut 7 (fun f => f 1 = .int .i64 meter ∧ f 2 = .pointer (some ⟨b1, 0, none⟩) ∧ f 5 = .int .i64 y5.1 ∧ f 7 = .int .i64 y6.1 ∧ f 8 = .int .i64 y6.2 ∧ f 59 = .bool (((((y5.2 != 0) || (decide (y5.1 < 0))) || (decide ((r.Meters.length : Int) < y5.1))) || ((y6.2 == 0) != (decide (y5.1 ≤ r.Wrong)))) || ((y6.2 != 0) && (y6.2 != 3)))) ?_ ?_
     ·intro hJ15
      rcases bcases ((((y5.2 != 0) || (decide (y5.1 < 0))) || (decide ((r.Meters.length : Int) < y5.1))) || ((y6.2 == 0) != (decide (y5.1 ≤ r.Wrong)))) with hc16 | hc16
      ·skip
       refine JL.skip (.bool rfl rfl rfl hc16) rfl ?_
       refine JL.skip (.bool rfl rfl rfl hc16) rfl ?_
       refine JL.skip (.bool rfl rfl rfl hc16) rfl ?_
       refine JL.skip (.no rfl rfl rfl) rfl ?_
       refine JL.skip (.no rfl rfl rfl) rfl ?_
       refine JL.skip (.bool rfl rfl rfl hc16) rfl ?_
       refine JL.pick_t (b := ((((y5.2 != 0) || (decide (y5.1 < 0))) || (decide ((r.Meters.length : Int) < y5.1))) || ((y6.2 == 0) != (decide (y5.1 ≤ r.Wrong))))) rfl hc16 .none rfl ?_
       exact hJ15 _ ⟨rfl, rfl, rfl, rfl, rfl, or_t hc16 rfl⟩
      ·skip
       refine JL.move (.some rfl rfl rfl hc16) rfl ?_
       refine JL.bin rfl rfl rfl (.some rfl rfl rfl hc16) rfl ?_
       refine JL.move (.some rfl rfl rfl hc16) rfl ?_
       refine JL.cut 3 (fun f => f 1 = .int .i64 meter ∧ f 2 = .pointer (some ⟨b1, 0, none⟩) ∧ f 5 = .int .i64 y5.1 ∧ f 7 = .int .i64 y6.1 ∧ f 8 = .int .i64 y6.2 ∧ f 52 = .bool ((((y5.2 != 0) || (decide (y5.1 < 0))) || (decide ((r.Meters.length : Int) < y5.1))) || ((y6.2 == 0) != (decide (y5.1 ≤ r.Wrong)))) ∧ f 58 = .bool ((y6.2 != 0) && (y6.2 != 3))) ?_ ?_
       ·intro hJ17
        rcases bcases (y6.2 != 0) with hc18 | hc18
        ·skip
         refine JL.move (.some rfl rfl rfl hc18) rfl ?_
         refine JL.bin rfl rfl rfl (.some rfl rfl rfl hc18) rfl ?_
         refine JL.pick_t (b := (y6.2 != 0)) rfl hc18 (.some rfl rfl rfl hc16) rfl ?_
         exact hJ17 _ ⟨rfl, rfl, rfl, rfl, rfl, rfl, and_t hc18 rfl⟩
        ·skip
         refine JL.skip (.bool rfl rfl rfl hc18) rfl ?_
         refine JL.skip (.bool rfl rfl rfl hc18) rfl ?_
         refine JL.pick_f (b := (y6.2 != 0)) rfl hc18 (.some rfl rfl rfl hc16) rfl ?_
         exact hJ17 _ ⟨rfl, rfl, rfl, rfl, rfl, rfl, and_f hc18 rfl⟩
       ·rintro f ⟨hf1, hf2, hf5, hf7, hf8, hf52, hf58⟩
        refine (JL.norm (i := 1) hf1 (JL.norm (i := 2) hf2 (JL.norm (i := 5) hf5 (JL.norm (i := 7) hf7 (JL.norm (i := 8) hf8 (JL.norm (i := 52) hf52 (JL.norm (i := 58) hf58 ?_)))))))
        refine JL.pick_f (b := ((((y5.2 != 0) || (decide (y5.1 < 0))) || (decide ((r.Meters.length : Int) < y5.1))) || ((y6.2 == 0) != (decide (y5.1 ≤ r.Wrong))))) rfl hc16 .none rfl ?_
        exact hJ15 _ ⟨rfl, rfl, rfl, rfl, rfl, or_f hc16 rfl⟩
     ·rintro f ⟨hf1, hf2, hf5, hf7, hf8, hf59⟩
      refine (JL.norm (i := 1) hf1 (JL.norm (i := 2) hf2 (JL.norm (i := 5) hf5 (JL.norm (i := 7) hf7 (JL.norm (i := 8) hf8 (JL.norm (i := 59) hf59 ?_))))))
      refine JL.move .none rfl ?_
      refine JL.cut 7 (fun f => f 1 = .int .i64 meter ∧ f 2 = .pointer (some ⟨b1, 0, none⟩) ∧ f 5 = .int .i64 y5.1 ∧ f 8 = .int .i64 y6.2 ∧ f 67 = .bool ((((((y5.2 != 0) || (decide (y5.1 < 0))) || (decide ((r.Meters.length : Int) < y5.1))) || ((y6.2 == 0) != (decide (y5.1 ≤ r.Wrong)))) || ((y6.2 != 0) && (y6.2 != 3))) || ((y6.2 == 0) && (decide (y6.1 < 1))))) ?_ ?_
      ·intro hJ21
       rcases bcases (((((y5.2 != 0) || (decide (y5.1 < 0))) || (decide ((r.Meters.length : Int) < y5.1))) || ((y6.2 == 0) != (decide (y5.1 ≤ r.Wrong)))) || ((y6.2 != 0) && (y6.2 != 3))) with hc22 | hc22
       ·skip
        refine JL.skip (.bool rfl rfl rfl hc22) rfl ?_
        refine JL.skip (.bool rfl rfl rfl hc22) rfl ?_
        refine JL.skip (.bool rfl rfl rfl hc22) rfl ?_
        refine JL.skip (.no rfl rfl rfl) rfl ?_
        refine JL.skip (.no rfl rfl rfl) rfl ?_
        refine JL.skip (.bool rfl rfl rfl hc22) rfl ?_
        refine JL.pick_t (b := (((((y5.2 != 0) || (decide (y5.1 < 0))) || (decide ((r.Meters.length : Int) < y5.1))) || ((y6.2 == 0) != (decide (y5.1 ≤ r.Wrong)))) || ((y6.2 != 0) && (y6.2 != 3)))) rfl hc22 .none rfl ?_
        exact hJ21 _ ⟨rfl, rfl, rfl, rfl, or_t hc22 rfl⟩
       ·skip
        refine JL.move (.some rfl rfl rfl hc22) rfl ?_
        refine JL.bin rfl rfl rfl (.some rfl rfl rfl hc22) rfl ?_
        refine JL.move (.some rfl rfl rfl hc22) rfl ?_
        refine JL.cut 3 (fun f => f 1 = .int .i64 meter ∧ f 2 = .pointer (some ⟨b1, 0, none⟩) ∧ f 5 = .int .i64 y5.1 ∧ f 8 = .int .i64 y6.2 ∧ f 60 = .bool (((((y5.2 != 0) || (decide (y5.1 < 0))) || (decide ((r.Meters.length : Int) < y5.1))) || ((y6.2 == 0) != (decide (y5.1 ≤ r.Wrong)))) || ((y6.2 != 0) && (y6.2 != 3))) ∧ f 66 = .bool ((y6.2 == 0) && (decide (y6.1 < 1)))) ?_ ?_
        ·intro hJ23
         rcases bcases (y6.2 == 0) with hc24 | hc24
         ·skip
          refine JL.move (.some rfl rfl rfl hc24) rfl ?_
          refine JL.bin rfl rfl rfl (.some rfl rfl rfl hc24) rfl ?_
          refine JL.pick_t (b := (y6.2 == 0)) rfl hc24 (.some rfl rfl rfl hc22) rfl ?_
          exact hJ23 _ ⟨rfl, rfl, rfl, rfl, rfl, and_t hc24 rfl⟩
         ·skip
          refine JL.skip (.bool rfl rfl rfl hc24) rfl ?_
          refine JL.skip (.bool rfl rfl rfl hc24) rfl ?_
          refine JL.pick_f (b := (y6.2 == 0)) rfl hc24 (.some rfl rfl rfl hc22) rfl ?_
          exact hJ23 _ ⟨rfl, rfl, rfl, rfl, rfl, and_f hc24 rfl⟩
        ·rintro f ⟨hf1, hf2, hf5, hf8, hf60, hf66⟩
         refine (JL.norm (i := 1) hf1 (JL.norm (i := 2) hf2 (JL.norm (i := 5) hf5 (JL.norm (i := 8) hf8 (JL.norm (i := 60) hf60 (JL.norm (i := 66) hf66 ?_))))))
         refine JL.pick_f (b := (((((y5.2 != 0) || (decide (y5.1 < 0))) || (decide ((r.Meters.length : Int) < y5.1))) || ((y6.2 == 0) != (decide (y5.1 ≤ r.Wrong)))) || ((y6.2 != 0) && (y6.2 != 3)))) rfl hc22 .none rfl ?_
         exact hJ21 _ ⟨rfl, rfl, rfl, rfl, or_f hc22 rfl⟩
      ·rintro f ⟨hf1, hf2, hf5, hf8, hf67⟩
       refine (JL.norm (i := 1) hf1 (JL.norm (i := 2) hf2 (JL.norm (i := 5) hf5 (JL.norm (i := 8) hf8 (JL.norm (i := 67) hf67 ?_)))))
       refine JL.done hQ ?_
       refine JQ.go ?_
       rcases ite_some hF with ⟨hc25, hF⟩ | ⟨hc25, hF⟩
       ·refine JC.cond_t (b := ((((((y5.2 != 0) || (decide (y5.1 < 0))) || (decide ((r.Meters.length : Int) < y5.1))) || ((y6.2 == 0) != (decide (y5.1 ≤ r.Wrong)))) || ((y6.2 != 0) && (y6.2 != 3))) || ((y6.2 == 0) && (decide (y6.1 < 1))))) rfl hc25 ?_
        refine JC.seq ?_
        refine JC.region (by rfl) ?_
        intro hQ
        refine JL.assign .none rfl ?_
        refine JL.done hQ ?_
        refine JQ.go ?_
        refine JC.ret ?_
        refine JQ.ret_then ?_
        obtain rfl := Option.some.inj hF
        exact JQ.outS rfl (.tmp .nil) rfl
       ·refine JC.cond_f (b := ((((((y5.2 != 0) || (decide (y5.1 < 0))) || (decide ((r.Meters.length : Int) < y5.1))) || ((y6.2 == 0) != (decide (y5.1 ≤ r.Wrong)))) || ((y6.2 != 0) && (y6.2 != 3))) || ((y6.2 == 0) && (decide (y6.1 < 1))))) rfl hc25 ?_
        refine JC.skip ?_
        refine JQ.go ?_
        refine JC.seq ?_
        refine JC.region (by rfl) ?_
        intro hQ
        refine JL.assign .none rfl ?_
        refine JL.done hQ ?_
        refine JQ.go ?_
        refine JC.seq ?_
        refine JC.seq ?_
        refine JC.region (by rfl) ?_
        intro hQ
        refine JL.assign .none rfl ?_
        refine JL.done hQ ?_
        refine JQ.go ?_
        obtain ⟨r69, hlr69, hKr69⟩ := bind_some hF
        refine JC.join (fun (never_67 : Int) H68 f bs gs => f 1 = .int .i64 meter ∧ f 2 = .pointer (some ⟨b1, 0, none⟩) ∧ f 5 = .int .i64 y5.1 ∧ f 9 = .int .i64 never_67 ∧ bs = [(b1, .cells [r_v0, .int .i64 r.Canopy.Frame.Low, .int .i64 r.Canopy.Frame.High, .int .i64 r.Canopy.Frame.Ease.Num, .int .i64 r.Canopy.Frame.Ease.Den, .int .i64 r.Canopy.Frame.Rod, .int .i64 r.Canopy.Frame.Case, r_v7, r_v8, r_v9, r_v10, .int .i64 r.Wrong].toArray 34)] ∧ gs = [] ∧ HSub H H68 ∧ Sum.inr never_67 = r69) ?_ ?_
        ·skip
         refine JC.block ?_
         refine JC.loop hlr69 (fun (x : Int × Int) H98 f bs gs => match x with | (never_96, i_97) => f 1 = .int .i64 meter ∧ f 2 = .pointer (some ⟨b1, 0, none⟩) ∧ f 5 = .int .i64 y5.1 ∧ f 8 = .int .i64 y6.2 ∧ f 9 = .int .i64 never_96 ∧ f 10 = .int .i64 i_97 ∧ bs = [(b1, .cells [r_v0, .int .i64 r.Canopy.Frame.Low, .int .i64 r.Canopy.Frame.High, .int .i64 r.Canopy.Frame.Ease.Num, .int .i64 r.Canopy.Frame.Ease.Den, .int .i64 r.Canopy.Frame.Rod, .int .i64 r.Canopy.Frame.Case, r_v7, r_v8, r_v9, r_v10, .int .i64 r.Wrong].toArray 34)] ∧ gs = [] ∧ HSub H H98) ⟨rfl, rfl, rfl, rfl, rfl, rfl, rfl, rfl, (HSub.refl _)⟩ ?_
         rintro ⟨never_96, i_97⟩ x100 H98 f bs gs ⟨hf1, hf2, hf5, hf8, hf9, hf10, rfl, rfl, hs98⟩ hF hr99
         rw [F_law13_CountsLiars_s1] at hF
         refine (JC.norm (i := 1) hf1 (JC.norm (i := 2) hf2 (JC.norm (i := 5) hf5 (JC.norm (i := 8) hf8 (JC.norm (i := 9) hf9 (JC.norm (i := 10) hf10 ?_))))))
         refine JC.seq ?_
         refine JC.seq ?_
         refine JC.region (by rfl) ?_
         intro hQ
         refine JL.move .none rfl ?_
         refine JL.fieldAddr fo_34_2 rfl .none rfl ?_
         refine JL.loadOwn 0 az_32 rfl rfl rfl .none rfl ?_
         refine JL.lenSL (R := R_Meter) ul_32 (SL.mono R_Meter_mono hs98 hr_10) .none rfl ?_
         refine JL.bin rfl rfl rfl .none rfl ?_
         refine JL.done hQ ?_
         refine JQ.go ?_
         rcases ite_some hF with ⟨hc101, hF⟩ | ⟨hc101, hF⟩
         ·refine JC.cond_t (b := decide (i_97 < (r.Meters.length : Int))) rfl hc101 ?_
          refine JC.skip ?_
          refine JQ.go ?_
          refine JC.seq ?_
          refine JC.block ?_
          refine JC.seq ?_
          refine JC.region (by rfl) ?_
          intro hQ
          refine JL.loadOwn 0 az_34 rfl rfl rfl .none rfl ?_
          refine JL.move .none rfl ?_
          obtain ⟨y102, hy102, hF⟩ := bind_some hF
          refine JL.callS (c_counts_Right n H98 r r_v0 (SL.mono R_Section_mono hs98 hr_0) r_v7 (SL.mono R_Span_mono hs98 hr_7) r_v8 (SL.mono RInt.mono hs98 hr_8) r_v9 (SL.mono R_Blow_mono hs98 hr_9) r_v10 (SL.mono R_Meter_mono hs98 hr_10) i_97 y102 hy102) rfl en_19 .none rfl ?_
          refine JL.move .none rfl ?_
          refine JL.extract rfl rfl .none rfl ?_
          refine JL.extract rfl rfl .none rfl ?_
          refine JL.assign .none rfl ?_
          refine JL.assign .none rfl ?_
          refine JL.done hQ ?_
          refine JQ.go ?_
          refine JC.fresh (fun f => f 1 = .int .i64 meter ∧ f 2 = .pointer (some ⟨b1, 0, none⟩) ∧ f 5 = .int .i64 y5.1 ∧ f 8 = .int .i64 y6.2 ∧ f 9 = .int .i64 never_96 ∧ f 10 = .int .i64 i_97 ∧ f 11 = .int .i64 y102.1 ∧ f 12 = .int .i64 y102.2) ⟨rfl, rfl, rfl, rfl, rfl, rfl, rfl, rfl⟩ ?_
          rintro f ⟨hf1, hf2, hf5, hf8, hf9, hf10, hf11, hf12⟩
          refine (JC.norm (i := 1) hf1 (JC.norm (i := 2) hf2 (JC.norm (i := 5) hf5 (JC.norm (i := 8) hf8 (JC.norm (i := 9) hf9 (JC.norm (i := 10) hf10 (JC.norm (i := 11) hf11 (JC.norm (i := 12) hf12 ?_))))))))
          refine JC.seq ?_
          refine JC.seq ?_
          refine JC.region (by rfl) ?_
          intro hQ
          refine JL.move .none rfl ?_
          refine JL.move .none rfl ?_
          refine JL.bin rfl rfl rfl .none rfl ?_
          refine JL.done hQ ?_
          refine JQ.go ?_
          rcases ite_some hF with ⟨hc103, hF⟩ | ⟨hc103, hF⟩
          ·refine JC.cond_t (b := (y102.2 != y6.2)) rfl hc103 ?_
           refine JC.seq ?_
           refine JC.region (by rfl) ?_
           intro hQ
           refine JL.assign .none rfl ?_
           refine JL.done hQ ?_
           refine JQ.go ?_
           refine JC.ret ?_
           refine JQ.ret_then ?_
           refine JQ.ret_block ?_
           refine JQ.ret_then ?_
           refine JQ.ret_then ?_
           refine JQ.ret_block ?_
           refine JQ.ret_join ?_
           refine JQ.ret_then ?_
           obtain rfl := Option.some.inj hF
           have ehr99 := hr99 _ rfl
           subst ehr99
           have hF := hKr69
           try dsimp only at hF
           obtain rfl := Option.some.inj hF
           exact JQ.outS rfl (.tmp .nil) rfl
          ·refine JC.cond_f (b := (y102.2 != y6.2)) rfl hc103 ?_
           refine JC.skip ?_
           refine JQ.go ?_
           refine JC.seq ?_
           refine JC.region (by rfl) ?_
           intro hQ
           refine JL.move .none rfl ?_
           refine JL.bin rfl rfl rfl .none rfl ?_
           refine JL.move .none rfl ?_
           refine JL.cut 3 (fun f => f 1 = .int .i64 meter ∧ f 2 = .pointer (some ⟨b1, 0, none⟩) ∧ f 5 = .int .i64 y5.1 ∧ f 8 = .int .i64 y6.2 ∧ f 9 = .int .i64 never_96 ∧ f 10 = .int .i64 i_97 ∧ f 89 = .bool ((y102.2 == 0) && (y102.1 == 2))) ?_ ?_
           ·intro hJ104
            rcases bcases (y102.2 == 0) with hc105 | hc105
            ·skip
             refine JL.move (.some rfl rfl rfl hc105) rfl ?_
             refine JL.bin rfl rfl rfl (.some rfl rfl rfl hc105) rfl ?_
             refine JL.pick_t (b := (y102.2 == 0)) rfl hc105 .none rfl ?_
             exact hJ104 _ ⟨rfl, rfl, rfl, rfl, rfl, rfl, and_t hc105 rfl⟩
            ·skip
             refine JL.skip (.bool rfl rfl rfl hc105) rfl ?_
             refine JL.skip (.bool rfl rfl rfl hc105) rfl ?_
             refine JL.pick_f (b := (y102.2 == 0)) rfl hc105 .none rfl ?_
             exact hJ104 _ ⟨rfl, rfl, rfl, rfl, rfl, rfl, and_f hc105 rfl⟩
           ·rintro f ⟨hf1, hf2, hf5, hf8, hf9, hf10, hf89⟩
            refine (JL.norm (i := 1) hf1 (JL.norm (i := 2) hf2 (JL.norm (i := 5) hf5 (JL.norm (i := 8) hf8 (JL.norm (i := 9) hf9 (JL.norm (i := 10) hf10 (JL.norm (i := 89) hf89 ?_)))))))
            refine JL.done hQ ?_
            refine JQ.go ?_
            obtain ⟨r109, hlr109, hKr109⟩ := bind_some hF
            refine JC.join (fun (never_107 : Int) H108 f bs gs => f 1 = .int .i64 meter ∧ f 2 = .pointer (some ⟨b1, 0, none⟩) ∧ f 5 = .int .i64 y5.1 ∧ f 8 = .int .i64 y6.2 ∧ f 9 = .int .i64 never_107 ∧ f 10 = .int .i64 i_97 ∧ bs = [(b1, .cells [r_v0, .int .i64 r.Canopy.Frame.Low, .int .i64 r.Canopy.Frame.High, .int .i64 r.Canopy.Frame.Ease.Num, .int .i64 r.Canopy.Frame.Ease.Den, .int .i64 r.Canopy.Frame.Rod, .int .i64 r.Canopy.Frame.Case, r_v7, r_v8, r_v9, r_v10, .int .i64 r.Wrong].toArray 34)] ∧ gs = [] ∧ HSub H98 H108 ∧ never_107 = r109) ?_ ?_
            ·have hF := hlr109
             rcases ite_some hF with ⟨hc110, hF⟩ | ⟨hc110, hF⟩
             ·refine JC.cond_t (b := ((y102.2 == 0) && (y102.1 == 2))) rfl hc110 ?_
              refine JC.region (by rfl) ?_
              intro hQ
              refine JL.move .none rfl ?_
              refine JL.bin rfl rfl rfl .none rfl ?_
              refine JL.assign .none rfl ?_
              refine JL.done hQ ?_
              obtain rfl := Option.some.inj hF
              exact JQ.join (w64 (never_96 + 1)) ⟨rfl, rfl, rfl, rfl, rfl, rfl, rfl, rfl, (HSub.refl _), rfl⟩
             ·refine JC.cond_f (b := ((y102.2 == 0) && (y102.1 == 2))) rfl hc110 ?_
              refine JC.skip ?_
              obtain rfl := Option.some.inj hF
              exact JQ.join never_96 ⟨rfl, rfl, rfl, rfl, rfl, rfl, rfl, rfl, (HSub.refl _), rfl⟩
            ·rintro never_107 H108 f bs gs ⟨hf1, hf2, hf5, hf8, hf9, hf10, rfl, rfl, hs108, rfl⟩
             have hF := hKr109
             try dsimp only at hF
             refine (JQ.norm (i := 1) hf1 (JQ.norm (i := 2) hf2 (JQ.norm (i := 5) hf5 (JQ.norm (i := 8) hf8 (JQ.norm (i := 9) hf9 (JQ.norm (i := 10) hf10 ?_))))))
             refine JQ.normal_block ?_
             refine JQ.go ?_
             refine JC.region (by rfl) ?_
             intro hQ
             refine JL.move .none rfl ?_
             refine JL.bin rfl rfl rfl .none rfl ?_
             refine JL.assign .none rfl ?_
             refine JL.done hQ ?_
             obtain rfl := Option.some.inj hF
             exact JQ.next rfl ⟨rfl, rfl, rfl, rfl, rfl, rfl, rfl, rfl, (HSub.trans hs98 hs108)⟩
         ·refine JC.cond_f (b := decide (i_97 < (r.Meters.length : Int))) rfl hc101 ?_
          refine JC.exit ?_
          refine JQ.exit_then ?_
          refine JQ.exit_then ?_
          refine JQ.exit_block ?_
          obtain rfl := Option.some.inj hF
          have ehr99 := hr99 _ rfl
          subst ehr99
          exact JQ.join never_96 ⟨rfl, rfl, rfl, rfl, rfl, rfl, hs98, rfl⟩
        ·rintro never_67 H68 f bs gs ⟨hf1, hf2, hf5, hf9, rfl, rfl, hs68, rfl⟩
         have hF := hKr69
         try dsimp only at hF
         refine (JQ.norm (i := 1) hf1 (JQ.norm (i := 2) hf2 (JQ.norm (i := 5) hf5 (JQ.norm (i := 9) hf9 ?_))))
         refine JQ.go ?_
         refine JC.seq ?_
         refine JC.seq ?_
         refine JC.region (by rfl) ?_
         intro hQ
         refine JL.move .none rfl ?_
         refine JL.fieldAddr fo_34_3 rfl .none rfl ?_
         refine JL.loadOwn 0 az_3 rfl rfl rfl .none rfl ?_
         refine JL.bin rfl rfl rfl .none rfl ?_
         refine JL.done hQ ?_
         refine JQ.go ?_
         rcases ite_some hF with ⟨hc111, hF⟩ | ⟨hc111, hF⟩
         ·refine JC.cond_t (b := decide (r.Wrong < never_67)) rfl hc111 ?_
          refine JC.seq ?_
          refine JC.region (by rfl) ?_
          intro hQ
          refine JL.assign .none rfl ?_
          refine JL.done hQ ?_
          refine JQ.go ?_
          refine JC.ret ?_
          refine JQ.ret_then ?_
          obtain rfl := Option.some.inj hF
          exact JQ.outS rfl (.tmp .nil) rfl
         ·refine JC.cond_f (b := decide (r.Wrong < never_67)) rfl hc111 ?_
          refine JC.skip ?_
          refine JQ.go ?_
          refine JC.seq ?_
          refine JC.seq ?_
          refine JC.region (by rfl) ?_
          intro hQ
          refine JL.move .none rfl ?_
          refine JL.bin rfl rfl rfl .none rfl ?_
          refine JL.move .none rfl ?_
          refine JL.cut 6 (fun f => f 1 = .int .i64 meter ∧ f 2 = .pointer (some ⟨b1, 0, none⟩) ∧ f 5 = .int .i64 y5.1 ∧ f 104 = .bool ((decide (meter < 0)) || (decide ((r.Meters.length : Int) ≤ meter)))) ?_ ?_
          ·intro hJ112
           rcases bcases (decide (meter < 0)) with hc113 | hc113
           ·skip
            refine JL.skip (.bool rfl rfl rfl hc113) rfl ?_
            refine JL.skip (.bool rfl rfl rfl hc113) rfl ?_
            refine JL.skip (.bool rfl rfl rfl hc113) rfl ?_
            refine JL.skip (.bool rfl rfl rfl hc113) rfl ?_
            refine JL.skip (.bool rfl rfl rfl hc113) rfl ?_
            refine JL.pick_t (b := decide (meter < 0)) rfl hc113 .none rfl ?_
            exact hJ112 _ ⟨rfl, rfl, rfl, or_t hc113 rfl⟩
           ·skip
            refine JL.move (.some rfl rfl rfl hc113) rfl ?_
            refine JL.fieldAddr fo_34_2 rfl (.some rfl rfl rfl hc113) rfl ?_
            refine JL.loadOwn 0 az_32 rfl rfl rfl (.some rfl rfl rfl hc113) rfl ?_
            refine JL.lenSL (R := R_Meter) ul_32 (SL.mono R_Meter_mono hs68 hr_10) (.some rfl rfl rfl hc113) rfl ?_
            refine JL.bin rfl rfl rfl (.some rfl rfl rfl hc113) rfl ?_
            refine JL.pick_f (b := decide (meter < 0)) rfl hc113 .none rfl ?_
            exact hJ112 _ ⟨rfl, rfl, rfl, or_f hc113 rfl⟩
          ·rintro f ⟨hf1, hf2, hf5, hf104⟩
           refine (JL.norm (i := 1) hf1 (JL.norm (i := 2) hf2 (JL.norm (i := 5) hf5 (JL.norm (i := 104) hf104 ?_))))
           refine JL.done hQ ?_
           refine JQ.go ?_
           rcases ite_some hF with ⟨hc114, hF⟩ | ⟨hc114, hF⟩
           ·refine JC.cond_t (b := ((decide (meter < 0)) || (decide ((r.Meters.length : Int) ≤ meter)))) rfl hc114 ?_
            refine JC.seq ?_
            refine JC.region (by rfl) ?_
            intro hQ
            obtain ⟨y115, hy115, hF⟩ := bind_some hF
            refine JL.callS (c_law13_works n H68 y115 hy115) rfl en_9 .none rfl ?_
            refine JL.assign .none rfl ?_
            refine JL.done hQ ?_
            refine JQ.go ?_
            refine JC.ret ?_
            refine JQ.ret_then ?_
            obtain rfl := Option.some.inj hF
            exact JQ.outS rfl (.tmp .nil) rfl
           ·refine JC.cond_f (b := ((decide (meter < 0)) || (decide ((r.Meters.length : Int) ≤ meter)))) rfl hc114 ?_
            refine JC.skip ?_
            refine JQ.go ?_
            refine JC.seq ?_
            refine JC.region (by rfl) ?_
            intro hQ
            refine JL.loadOwn 0 az_34 rfl rfl rfl .none rfl ?_
            obtain ⟨y116, hy116, hF⟩ := bind_some hF
            refine JL.callXC (x_ref13_Copy n H68 r r_v0 (SL.mono R_Section_mono hs68 hr_0) r_v7 (SL.mono R_Span_mono hs68 hr_7) r_v8 (SL.mono RInt.mono hs68 hr_8) r_v9 (SL.mono R_Blow_mono hs68 hr_9) r_v10 (SL.mono R_Meter_mono hs68 hr_10) y116 hy116) rfl en_10 .none rfl ?_
            rintro H117 vv118 _ hs117 ⟨y116_v0, y116_xs0, y116_v1, y116_xs1, y116_v2, y116_xs2, y116_v3, y116_xs3, y116_v4, y116_xs4, rfl, rfl, hy116_0, hy116_1, hy116_2, hy116_3, hy116_4⟩
            refine JL.alloc ze_34 .none rfl ?_
            intro b124
            refine JL.oneG 4 rfl (fun ho125 => ?_)
            refine JL.oneG 3 rfl (fun ho126 => ?_)
            refine JL.oneG 2 rfl (fun ho127 => ?_)
            refine JL.oneG 1 rfl (fun ho128 => ?_)
            refine JL.oneG 0 rfl (fun ho129 => ?_)
            refine JL.storeOwn 0 (cs := [y116_v0, .int .i64 y116.Canopy.Frame.Low, .int .i64 y116.Canopy.Frame.High, .int .i64 y116.Canopy.Frame.Ease.Num, .int .i64 y116.Canopy.Frame.Ease.Den, .int .i64 y116.Canopy.Frame.Rod, .int .i64 y116.Canopy.Frame.Case, y116_v1, y116_v2, y116_v3, y116_v4, .int .i64 y116.Wrong]) az_34 rfl rfl rfl (one_cons ho125.1 (one_cons rfl (one_cons rfl (one_cons rfl (one_cons rfl (one_cons rfl (one_cons rfl (one_cons ho126.1 (one_cons ho127.1 (one_cons ho128.1 (one_cons ho129.1 (one_cons rfl one_nil)))))))))))) rfl rfl .none ?_
            refine JL.done hQ ?_
            refine JQ.go ?_
            refine JC.seq ?_
            obtain ⟨y130, hy130, hF⟩ := bind_some hF
            obtain ⟨y134, hy134, hF⟩ := bind_some hF
            obtain ⟨l137, hl137, hF⟩ := bind_some hF
            refine JC.mixed 11 12 #[false, false, false, false, false, false, false, false, false, false, false, false] [(b124, .cells [y116_v0, .int .i64 y116.Canopy.Frame.Low, .int .i64 y116.Canopy.Frame.High, .int .i64 y116.Canopy.Frame.Ease.Num, .int .i64 y116.Canopy.Frame.Ease.Den, .int .i64 y116.Canopy.Frame.Rod, .int .i64 y116.Canopy.Frame.Case, y116_v1, y116_v2, y116_v3, y116_v4, .int .i64 y116.Wrong].toArray 34), (b1, .cells [r_v0, .int .i64 r.Canopy.Frame.Low, .int .i64 r.Canopy.Frame.High, .int .i64 r.Canopy.Frame.Ease.Num, .int .i64 r.Canopy.Frame.Ease.Den, .int .i64 r.Canopy.Frame.Rod, .int .i64 r.Canopy.Frame.Case, r_v7, r_v8, r_v9, r_v10, .int .i64 r.Wrong].toArray 34)] (by rfl) mo_ (by kernel_rfl) (by kernel_rfl) ?_
            intro hQ hE
            refine JA.take 0 (listed' := #[true, false, false, false, false, false, false, false, false, false, false, false]) hQ rfl (by kernel_rfl) (by kernel_rfl) (by kernel_rfl) (by kernel_rfl) (by kernel_rfl) hE (HSub.refl _) (.cons_cons _ (.cons_cons _ (List.nil_sublist _))) ?_
            refine JL.fieldAddr fo_34_2 rfl .none rfl ?_
            refine JA.cont ?_
            refine JA.take 1 (listed' := #[true, true, false, false, false, false, false, false, false, false, false, false]) hQ rfl (by kernel_rfl) (by kernel_rfl) (by kernel_rfl) (by kernel_rfl) (by kernel_rfl) hE (HSub.refl _) (.cons_cons _ (.cons_cons _ (List.nil_sublist _))) ?_
            refine JL.loadOwn 0 az_32 rfl rfl rfl .none rfl ?_
            refine JA.cont ?_
            refine JA.take 2 (listed' := #[true, true, true, false, false, false, false, false, false, false, false, false]) hQ rfl (by kernel_rfl) (by kernel_rfl) (by kernel_rfl) (by kernel_rfl) (by kernel_rfl) hE (HSub.refl _) (.cons_cons _ (.cons_cons _ (List.nil_sublist _))) ?_
            refine JL.move .none rfl ?_
            refine JA.cont ?_
            refine JA.take 4 (listed' := #[true, true, true, false, true, false, false, false, false, false, false, false]) hQ rfl (by kernel_rfl) (by kernel_rfl) (by kernel_rfl) (by kernel_rfl) (by kernel_rfl) hE (HSub.refl _) (.cons_cons _ (.cons_cons _ (List.nil_sublist _))) ?_
            refine JL.fieldAddr fo_34_2 rfl .none rfl ?_
            refine JA.cont ?_
            refine JA.take 5 (listed' := #[true, true, true, false, true, true, false, false, false, false, false, false]) hQ rfl (by kernel_rfl) (by kernel_rfl) (by kernel_rfl) (by kernel_rfl) (by kernel_rfl) hE (HSub.refl _) (.cons_cons _ (.cons_cons _ (List.nil_sublist _))) ?_
            refine JL.loadOwn 1 az_32 rfl rfl rfl .none rfl ?_
            refine JA.cont ?_
            refine JA.take 6 (listed' := #[true, true, true, false, true, true, true, false, false, false, false, false]) hQ rfl (by kernel_rfl) (by kernel_rfl) (by kernel_rfl) (by kernel_rfl) (by kernel_rfl) hE (HSub.refl _) (.cons_cons _ (.cons_cons _ (List.nil_sublist _))) ?_
            refine JL.move .none rfl ?_
            refine JA.cont ?_
            refine JA.take 7 (listed' := #[true, true, true, false, true, true, true, true, false, false, false, false]) hQ rfl (by kernel_rfl) (by kernel_rfl) (by kernel_rfl) (by kernel_rfl) (by kernel_rfl) hE (HSub.refl _) (.cons_cons _ (.cons_cons _ (List.nil_sublist _))) ?_
            refine JL.bin rfl rfl rfl .none rfl ?_
            refine JA.cont ?_
            refine JA.take 8 (listed' := #[true, true, true, false, true, true, true, true, true, false, false, false]) hQ rfl (by kernel_rfl) (by kernel_rfl) (by kernel_rfl) (by kernel_rfl) (by kernel_rfl) hE (HSub.refl _) (.cons_cons _ (.cons_cons _ (List.nil_sublist _))) ?_
            refine JL.sliceLo (R := R_Meter) sl_32 (SL.mono R_Meter_mono (HSub.trans hs68 hs117) hr_10) rfl hy134 .none rfl ?_
            intro v177 hv178
            refine JA.cont ?_
            refine JA.many [3] (by kernel_rfl) (by simp) (all_one ⟨_, #[true, true, true, true, true, true, true, true, true, false, false, false], rfl, (by kernel_rfl), ?_⟩)
            refine JL.sliceG (R := R_Meter) (l := y116.Meters) 0 sl_32 rfl ⟨rfl, rfl⟩ rfl rfl hy116_4 rfl hy130 .none rfl ?_
            intro v179 xs180 hch181
            refine JA.after hE (HSub.refl _) (.cons_cons _ (.cons_cons _ (List.nil_sublist _))) ?_
            refine JA.many [9] (by kernel_rfl) (by simp) (all_one ⟨_, #[true, true, true, true, true, true, true, true, true, true, false, false], rfl, (by kernel_rfl), ?_⟩)
            refine JL.appD (R := R_Meter) 0 (l := y130) (m := y134) ap_32 rfl ⟨rfl, rfl⟩ rfl hch181 rfl hv178 (R_Meter_one _) hl137 .none rfl ?_
            intro v182 xs183 hch184
            refine JA.after hE (HSub.refl _) (.cons_cons _ (.cons_cons _ (List.nil_sublist _))) ?_
            refine JA.take 10 (listed' := #[true, true, true, true, true, true, true, true, true, true, true, false]) hQ rfl (by kernel_rfl) (by kernel_rfl) (by kernel_rfl) (by kernel_rfl) (by kernel_rfl) hE (HSub.refl _) (.cons_cons _ (.cons_cons _ (List.nil_sublist _))) ?_
            refine JL.fieldAddr fo_34_2 rfl .none rfl ?_
            refine JA.cont ?_
            refine JA.many [11] (by kernel_rfl) (by simp) (all_one ⟨_, #[true, true, true, true, true, true, true, true, true, true, true, true], rfl, (by kernel_rfl), ?_⟩)
            refine JL.oneG 0 rfl (fun ho185 => ?_)
            refine JL.storeOwn 0 (cs := [v182]) az_32 rfl ho185.2 rfl (one_cons ho185.1 one_nil) rfl rfl .none ?_
            refine JA.sink (by kernel_rfl) ?_
            refine JA.done hQ (by kernel_rfl) ?_
            refine JQ.go ?_
            refine JC.fresh (fun f => f 5 = .int .i64 y5.1 ∧ f 13 = .pointer (some ⟨b124, 0, none⟩)) ⟨rfl, rfl⟩ ?_
            rintro f ⟨hf5, hf13⟩
            refine (JC.norm (i := 5) hf5 (JC.norm (i := 13) hf13 ?_))
            refine JC.seq ?_
            refine JC.region (by rfl) ?_
            intro hQ
            refine JL.loadOwn 0 az_34 rfl rfl rfl .none rfl ?_
            refine JL.freezeG 4 (R := R_Section) rfl R_Section_mono hy116_0 rfl ?_
            intro H186 hs186 hg187
            refine JL.freezeG 3 (R := R_Span) rfl R_Span_mono (CH.mono R_Span_mono hs186 hy116_1) rfl ?_
            intro H188 hs188 hg189
            refine JL.freezeG 2 (R := RInt) rfl RInt.mono (CH.mono RInt.mono (HSub.trans hs186 hs188) hy116_2) rfl ?_
            intro H190 hs190 hg191
            refine JL.freezeG 1 (R := R_Blow) rfl R_Blow_mono (CH.mono R_Blow_mono (HSub.trans hs186 (HSub.trans hs188 hs190)) hy116_3) rfl ?_
            intro H192 hs192 hg193
            refine JL.freezeG 0 (R := R_Meter) rfl R_Meter_mono (CH.mono R_Meter_mono (HSub.trans hs186 (HSub.trans hs188 (HSub.trans hs190 hs192))) hch184) rfl ?_
            intro H194 hs194 hg195
            obtain ⟨y196, hy196, hF⟩ := bind_some hF
            refine JL.callS (c_counts_Fewest n H194 (Run.mk y116.Canopy y116.Blows l137 y116.Wrong) y116_v0 (SL.mono R_Section_mono (HSub.trans hs188 (HSub.trans hs190 (HSub.trans hs192 hs194))) hg187) y116_v1 (SL.mono R_Span_mono (HSub.trans hs190 (HSub.trans hs192 hs194)) hg189) y116_v2 (SL.mono RInt.mono (HSub.trans hs192 hs194) hg191) y116_v3 (SL.mono R_Blow_mono hs194 hg193) v182 hg195 y196 hy196) rfl en_21 .none rfl ?_
            refine JL.move .none rfl ?_
            refine JL.extract rfl rfl .none rfl ?_
            refine JL.extract rfl rfl .none rfl ?_
            refine JL.assign .none rfl ?_
            refine JL.assign .none rfl ?_
            refine JL.done hQ ?_
            refine JQ.go ?_
            refine JC.seq ?_
            refine JC.region (by rfl) ?_
            intro hQ
            refine JL.move .none rfl ?_
            refine JL.bin rfl rfl rfl .none rfl ?_
            refine JL.move .none rfl ?_
            refine JL.cut 10 (fun f => f 136 = .bool ((y196.2 == 0) && ((y196.1 == y5.1) || (y196.1 == (w64 (y5.1 - 1)))))) ?_ ?_
            ·intro hJ199
             rcases bcases (y196.2 == 0) with hc200 | hc200
             ·skip
              refine JL.move (.some rfl rfl rfl hc200) rfl ?_
              refine JL.move (.some rfl rfl rfl hc200) rfl ?_
              refine JL.bin rfl rfl rfl (.some rfl rfl rfl hc200) rfl ?_
              refine JL.move (.some rfl rfl rfl hc200) rfl ?_
              refine JL.cut 5 (fun f => f 126 = .bool (y196.2 == 0) ∧ f 135 = .bool ((y196.1 == y5.1) || (y196.1 == (w64 (y5.1 - 1))))) ?_ ?_
              ·intro hJ201
               rcases bcases (y196.1 == y5.1) with hc202 | hc202
               ·skip
                refine JL.skip (.bool rfl rfl rfl hc202) rfl ?_
                refine JL.skip (.bool rfl rfl rfl hc202) rfl ?_
                refine JL.skip (.bool rfl rfl rfl hc202) rfl ?_
                refine JL.skip (.bool rfl rfl rfl hc202) rfl ?_
                refine JL.pick_t (b := (y196.1 == y5.1)) rfl hc202 (.some rfl rfl rfl hc200) rfl ?_
                exact hJ201 _ ⟨rfl, or_t hc202 rfl⟩
               ·skip
                refine JL.move (.some rfl rfl rfl hc202) rfl ?_
                refine JL.move (.some rfl rfl rfl hc202) rfl ?_
                refine JL.bin rfl rfl rfl (.some rfl rfl rfl hc202) rfl ?_
                refine JL.bin rfl rfl rfl (.some rfl rfl rfl hc202) rfl ?_
                refine JL.pick_f (b := (y196.1 == y5.1)) rfl hc202 (.some rfl rfl rfl hc200) rfl ?_
                exact hJ201 _ ⟨rfl, or_f hc202 rfl⟩
              ·rintro f ⟨hf126, hf135⟩
               refine (JL.norm (i := 126) hf126 (JL.norm (i := 135) hf135 ?_))
               refine JL.pick_t (b := (y196.2 == 0)) rfl hc200 .none rfl ?_
               exact hJ199 _ (and_t hc200 rfl)
             ·skip
              refine JL.skip (.bool rfl rfl rfl hc200) rfl ?_
              refine JL.skip (.bool rfl rfl rfl hc200) rfl ?_
              refine JL.skip (.bool rfl rfl rfl hc200) rfl ?_
              refine JL.skip (.bool rfl rfl rfl hc200) rfl ?_
              refine JL.skip (.no rfl rfl rfl) rfl ?_
              refine JL.skip (.no rfl rfl rfl) rfl ?_
              refine JL.skip (.no rfl rfl rfl) rfl ?_
              refine JL.skip (.no rfl rfl rfl) rfl ?_
              refine JL.skip (.bool rfl rfl rfl hc200) rfl ?_
              refine JL.pick_f (b := (y196.2 == 0)) rfl hc200 .none rfl ?_
              exact hJ199 _ (and_f hc200 rfl)
            ·rintro f hf136
             refine (JL.norm (i := 136) hf136 ?_)
             refine JL.move .none rfl ?_
             obtain ⟨p204, hp204, hF⟩ := bind_some hF
             refine JL.cut 2 (fun f => f 139 = .bool p204) ?_ ?_
             ·intro hJ205
              rcases ite_some hp204 with ⟨hc206, hF⟩ | ⟨hc206, hF⟩
              ·skip
               obtain ⟨y207, hy207, hF⟩ := bind_some hF
               refine JL.callS (c_law13_works n H194 y207 hy207) rfl en_9 (.some rfl rfl rfl hc206) rfl ?_
               refine JL.pick_t (b := ((y196.2 == 0) && ((y196.1 == y5.1) || (y196.1 == (w64 (y5.1 - 1)))))) rfl hc206 .none rfl ?_
               obtain rfl := Option.some.inj hF
               exact hJ205 _ (rfl)
              ·skip
               refine JL.skip (.bool rfl rfl rfl hc206) rfl ?_
               refine JL.pick_f (b := ((y196.2 == 0) && ((y196.1 == y5.1) || (y196.1 == (w64 (y5.1 - 1)))))) rfl hc206 .none rfl ?_
               obtain rfl := Option.some.inj hF
               exact hJ205 _ (rfl)
             ·rintro f hf139
              refine (JL.norm (i := 139) hf139 ?_)
              refine JL.assign .none rfl ?_
              refine JL.done hQ ?_
              refine JQ.go ?_
              refine JC.ret ?_
              obtain rfl := Option.some.inj hF
              exact JQ.outS rfl (.tmp .nil) rfl

end Go.Proofs.Ytcipdblhopffbaa
end
section
namespace Go.Proofs.Ytcipdblhopffbaa
open Go Go.RowKit Go.Dec
theorem cases_ne {r : Run} (hr : ROk r) : ∃ c, c ∈ casesS r.Blows := by
  refine ⟨r.Blows.map fun b => b.Force.Low, mem_cases.2 ⟨by rw [List.length_map], fun i b x hb hx => ?_⟩⟩
  rw [List.getElem?_map, hb] at hx
  obtain rfl : b.Force.Low = x := by simpa using hx
  have := (hr.b b (List.mem_of_getElem? hb)).le
  omega
theorem wrong_le (ms : List Meter) (c : List Int) : wrongC ms c ≤ ms.length := List.countP_le_length
theorem few_spec {r : Run} (hr : ROk r) : ∃ m : Int, fewestT r = (m, 0) ∧ fmin (fun c => (wrongC r.Meters c : Int)) (casesS r.Blows) r.Meters.length = m ∧ 0 ≤ m ∧ m ≤ r.Meters.length ∧ (errR r true = 0 ↔ m ≤ r.Wrong) := by
  obtain ⟨⟨a1, a2⟩, a3⟩ := fmin_spec (fun c => (wrongC r.Meters c : Int)) (casesS r.Blows) r.Meters.length
  refine ⟨_, by unfold fewestT; rw [if_pos (checkR_ok.2 hr)], rfl, ?_, a1, ?_⟩
  · rcases a3 with h | ⟨x, _, h⟩ <;> omega
  · rw [errR_true hr]
    constructor
    · intro h
      by_cases h0 : truthsC r = []
      · rw [if_pos h0] at h; omega
      · obtain ⟨c, hc⟩ := List.exists_mem_of_ne_nil _ h0
        have h1 := a2 c (truth_case hc)
        have h2 := (List.mem_filter.1 hc).2
        simp only [truthC, decide_eq_true_eq] at h2
        omega
    · intro h
      rw [if_neg]
      intro h0
      have hno : ∀ c ∈ casesS r.Blows, ¬ (wrongC r.Meters c : Int) ≤ r.Wrong := fun c hc hw => by
        have : c ∈ truthsC r := List.mem_filter.2 ⟨hc, by simpa [truthC] using hw⟩
        rw [h0] at this; cases this
      rcases a3 with h3 | ⟨x, hx, h3⟩
      · obtain ⟨c, hc⟩ := cases_ne hr
        have h4 := hno c hc
        have h5 := wrong_le r.Meters c
        omega
      · have := hno x hx; omega
theorem wrong_drop {ms : List Meter} {k : Nat} {m : Meter} (hk : ms[k]? = some m) (c : List Int) : wrongC ms c = wrongC (ms.take k ++ ms.drop (k + 1)) c + (if rightC m c = true then 0 else 1) := by
  have hlt := (List.getElem?_eq_some_iff.1 hk).1
  have e : ms = ms.take k ++ m :: ms.drop (k + 1) := by
    conv => lhs; rw [← List.take_append_drop k ms, List.drop_eq_getElem_cons hlt]
    rw [(List.getElem?_eq_some_iff.1 hk).2]
  conv => lhs; rw [e]
  unfold wrongC
  rw [List.countP_append, List.countP_append, List.countP_cons]
  cases h : rightC m c <;> simp <;> omega
theorem law_CountsLiars (r : Run) (meter : Int) (_ : W_Run r) (_ : I64 meter) : ∃ n, F_law13_CountsLiars n r meter = some true := by
  have hn : 100000000 ≤ 100000000 := Nat.le_refl _
  refine ⟨100000000, ?_⟩
  have hw := works13 hn
  simp only [F_law13_CountsLiars]
  rcases p_ready hn r with h | ⟨h, hr⟩
  · simp [h, hw]
  · have hs := hr.small
    have nm := hr.nm
    have hwr := hr.w
    obtain ⟨m, hf, hfm, m0, m1, me⟩ := few_spec hr
    have hmany : (manyT r).2 = errR r true := many_err r
    have hmany1 : errR r true = 0 → 1 ≤ (manyT r).1 := fun e => by
      unfold manyT; rw [if_pos e]; have := truths_pos e; simp only; omega
    simp only [h, Option.bind_some, Bool.not_true, Bool.false_eq_true, if_false, p_Fewest hn hs, p_Many hn hs, hf, hmany]
    have c1 : (((((((0 : Int) != 0) || decide (m < 0)) || decide ((r.Meters.length : Int) < m)) || ((errR r true == 0) != decide (m ≤ r.Wrong))) || ((errR r true != 0) && (errR r true != 3))) || ((errR r true == 0) && decide ((manyT r).1 < 1))) = false := by
      rcases errR_three hr with e | e
      · have h1 := me.1 e
        have h2 := hmany1 e
        simp [e]; omega
      · have h1 : ¬ m ≤ r.Wrong := fun h => by have := me.2 h; omega
        simp [e]; omega
    rw [c1]
    simp only [Bool.false_eq_true, if_false]
    have hright : ∀ i : Nat, i < r.Meters.length → (rightT r (i : Int)).2 = errR r true := fun i hi => by
      rw [right_in (r := r) (by omega) (by omega)]; split
      · rename_i e; rw [e]
      · rfl
    have cle : ∀ j, (List.range j).countP (fun i => errR r true == 0 && (rightT r ((i : Nat) : Int)).1 == 2) ≤ j := fun j => by
      have := List.countP_le_length (p := fun i => errR r true == 0 && (rightT r ((i : Nat) : Int)).1 == 2) (l := List.range j)
      rwa [List.length_range] at this
    have hl := loop_run (step := F_law13_CountsLiars_s1 100000000 r (manyT r)) (fun j => (((List.range j).countP (fun i => errR r true == 0 && (rightT r ((i : Nat) : Int)).1 == 2) : Int), (j : Int))) (r := Sum.inr ((List.range r.Meters.length).countP (fun i => errR r true == 0 && (rightT r ((i : Nat) : Int)).1 == 2) : Int)) r.Meters.length 0 100000000 (fun j _ hj => by
      have hi : j < r.Meters.length := by omega
      have hc := cle j
      simp only [F_law13_CountsLiars_s1, lt_nat, hi, decide_true, if_true, p_Right hn hs, Option.bind_some, hright j hi, hmany, bne_self_eq_false, Bool.false_eq_true, if_false, w64_nat (show j ≤ 4611686018427387904 by omega), List.range_succ, List.countP_append, List.countP_singleton]
      by_cases hq : (errR r true == 0 && (rightT r (j : Int)).1 == 2) = true
      · simp only [hq, if_true, Option.bind_some]
        rw [w64_nat (by omega)]
      · simp only [hq, Bool.false_eq_true, if_false, Option.bind_some, Nat.add_zero]) (by
      simp only [Nat.zero_add, F_law13_CountsLiars_s1]
      simp) (by omega)
    simp only [List.range_zero, List.countP_nil, show ((0 : Nat) : Int) = 0 from rfl] at hl
    rw [hl]
    simp only [Option.bind_some]
    have hnev : ((List.range r.Meters.length).countP (fun i => errR r true == 0 && (rightT r ((i : Nat) : Int)).1 == 2) : Int) ≤ r.Wrong := by
      rcases errR_three hr with e | e
      · obtain ⟨c, hc⟩ := List.exists_mem_of_ne_nil _ (errR_ok e).2.2
        have h2 := (List.mem_filter.1 hc).2
        simp only [truthC, decide_eq_true_eq] at h2
        have h3 : (List.range r.Meters.length).countP (fun i => errR r true == 0 && (rightT r ((i : Nat) : Int)).1 == 2) ≤ (List.range r.Meters.length).countP (fun i => !rightC (meterAt r ((i : Nat) : Int)) c) := by
          refine List.countP_mono_left fun i hi hp => ?_
          have hi := List.mem_range.1 hi
          rw [right_in (r := r) (by omega) (by omega), e] at hp
          simp only [if_true, beq_self_eq_true, Bool.true_and, beq_iff_eq] at hp
          split at hp
          · omega
          · split at hp
            · rename_i h5
              exact List.all_eq_true.1 h5 c hc
            · omega
        have h4 : (List.range r.Meters.length).countP (fun i => !rightC (meterAt r ((i : Nat) : Int)) c) = wrongC r.Meters c := by
          unfold wrongC
          refine countP_range _ _ _ fun i x hx => ?_
          unfold meterAt
          rw [Int.toNat_natCast, hx]; rfl
        omega
      · have : (List.range r.Meters.length).countP (fun i => errR r true == 0 && (rightT r ((i : Nat) : Int)).1 == 2) = 0 := by
          rw [List.countP_eq_zero]
          intro i _
          simp [e]
        omega
    rw [if_neg (show ¬ decide (r.Wrong < _) = true by rw [decide_eq_true_eq]; omega)]
    split
    · rw [hw]; rfl
    · rename_i hC
      simp only [Bool.or_eq_true, decide_eq_true_eq, not_or] at hC
      obtain ⟨k, rfl⟩ : ∃ k : Nat, meter = k := ⟨meter.toNat, by omega⟩
      have hk : k < r.Meters.length := by omega
      have e1 : slc r.Meters 0 (k : Int) = some (r.Meters.take k) := by
        unfold slc; rw [if_pos ⟨by omega, by omega, by omega⟩]; simp
      have e2 : slc r.Meters (w64 ((k : Int) + 1)) r.Meters.length = some (r.Meters.drop (k + 1)) := by
        rw [w64_nat (by omega)]
        unfold slc; rw [if_pos ⟨by omega, by omega, by omega⟩]; simp
      have e3 : lim (r.Meters.take k ++ r.Meters.drop (k + 1)) = some (r.Meters.take k ++ r.Meters.drop (k + 1)) := lim_ok (by simp; omega)
      simp only [p_Copy13 hn hs, Option.bind_some, e1, e2, e3]
      obtain ⟨o, ho⟩ : ∃ o : Run, o = ⟨r.Canopy, r.Blows, r.Meters.take k ++ r.Meters.drop (k + 1), r.Wrong⟩ := ⟨_, rfl⟩
      have hml : (r.Meters.take k ++ r.Meters.drop (k + 1)).length = r.Meters.length - 1 := by simp; omega
      have hro : ROk o := by
        rw [ho]
        refine ⟨hr.d, hr.nb, by simp only [hml]; omega, hr.b, fun x hx => ?_, hr.w⟩
        rcases List.mem_append.1 hx with hx | hx
        · exact hr.m x (List.mem_of_mem_take hx)
        · exact hr.m x (List.mem_of_mem_drop hx)
      rw [← ho]
      obtain ⟨m', hf', hfm', m0', m1', _⟩ := few_spec hro
      simp only [p_Fewest hn hro.small, hf', Option.bind_some]
      have hob : o.Blows = r.Blows := by rw [ho]
      have hom : o.Meters = r.Meters.take k ++ r.Meters.drop (k + 1) := by rw [ho]
      have hlen : (o.Meters.length : Int) = (r.Meters.length : Int) - 1 := by rw [hom, hml]; omega
      have hd := wrong_drop (List.getElem?_eq_getElem hk)
      rw [hob, hlen] at hfm'
      have k1 : m' ≤ m := by
        obtain ⟨⟨a1, a2⟩, a3⟩ := fmin_spec (fun c => (wrongC r.Meters c : Int)) (casesS r.Blows) r.Meters.length
        obtain ⟨⟨b1, b2⟩, b3⟩ := fmin_spec (fun c => (wrongC o.Meters c : Int)) (casesS r.Blows) ((r.Meters.length : Int) - 1)
        rw [hfm'] at b1 b2
        rw [hfm] at a3
        rcases a3 with h5 | ⟨c, hc, h5⟩
        · omega
        · have h6 := b2 c hc
          have h7 := hd c
          rw [hom] at h6
          omega
      have k2 : m ≤ m' + 1 := by
        obtain ⟨⟨a1, a2⟩, a3⟩ := fmin_spec (fun c => (wrongC r.Meters c : Int)) (casesS r.Blows) r.Meters.length
        obtain ⟨⟨b1, b2⟩, b3⟩ := fmin_spec (fun c => (wrongC o.Meters c : Int)) (casesS r.Blows) ((r.Meters.length : Int) - 1)
        rw [hfm'] at b3
        rw [hfm] at a1 a2
        rcases b3 with h5 | ⟨c, hc, h5⟩
        · omega
        · have h6 := a2 c hc
          have h7 := hd c
          rw [hom] at h5
          split at h7 <;> omega
      have k3 : w64 (m - 1) = m - 1 := w64_id (by omega) (by omega)
      have k4 : (m' == m || m' == w64 (m - 1)) = true := by
        rw [k3]; simp; omega
      simp only [k4, beq_self_eq_true, Bool.and_self, if_true, hw, Option.bind_some]
end Go.Proofs.Ytcipdblhopffbaa
end
section
namespace Go.Proofs.Ytcipdblhopffbaa
open Go Go.RowKit Go.Dec Go.ChangeShapes Go.WideShapes Go.ChangeAt
set_option linter.unusedVariables false
theorem cl_laidOut : laidOutB Try.prog = true := by kernel_rfl
theorem cl_own : ownKnob Try.prog.godebug = none := by kernel_rfl

set_option maxRecDepth 100000 in
set_option maxHeartbeats 1000000 in
theorem countsLiars_contract (law : ∀ (x0 : Run) (x1 : Int), W_Run x0 → I64 x1 → ∃ n, F_law13_CountsLiars n x0 x1 = some true)
    (T : Type) (enc : TypeId × Value → T) (W : World) (base : Nat) (args : Array Value) (ds gs : List (DataW T)) (before : List MemPlace)
    (hval : ∀ (j : Nat) t v, Try.f7.params[j]? = some t → args[j]? = some v → Value.okWide Try.prog W .any base t v)
    (hW : DataW.Whole enc Try.prog Try.f7.params.toList Rows.countsLiarsSpec.vars false W args.toList ds gs before) :
    Calls Try.prog 7 args W fun e W' => ∃ v, e = .returned v ∧ Rows.countsLiarsSpec.post enc Try.prog Try.f7 false true false false W args v W' := by
  have hW' := hW
  obtain ⟨p, q, hA0, hV, rfl, hfz, hnd⟩ := hW
  have hA : DataW.TrodAll enc Try.prog W 0 (fun _ => true) true Try.f7.params.toList args.toList ds p := hA0
  rw [Try.params7] at hA hval
  obtain ⟨v0, vs0, d0, ds0, p0, q0, hargs, rfl, rfl, h0, r0⟩ := trodAll_cons hA
  obtain ⟨v1, vs1, d1, ds1, p1, q1, rfl, rfl, rfl, h1, r1⟩ := trodAll_cons r0
  obtain ⟨rfl, rfl, rfl⟩ := trodAll_nil r1
  obtain rfl : args = #[v0, v1] := by rw [← Array.toArray_toList (xs := args), hargs]
  obtain ⟨rfl, rfl⟩ := trodVars_none hV
  obtain ⟨cs0, rfl, hs0⟩ := okWide_struct Try.underlying34 (hval 0 34 v0 rfl rfl)
  obtain ⟨n1, rfl⟩ := okWide_int Try.underlying3 (hval 1 3 v1 rfl rfl)
  have k0 := h0
  obtain ⟨f0, e0⟩ := h0
  have k1 := h1
  obtain ⟨f1, e1⟩ := h1
  obtain ⟨_, x0, r0, w0⟩ := o_Run _ _ _ _ _ _ _ e0
  obtain ⟨_, x1, r1, w1⟩ := (Opens.int (by kernel_rfl)) _ _ _ _ _ _ _ e1
  obtain ⟨n, hn⟩ := law x0 x1 w0 w1
  obtain ⟨u0_0, u0_1, u0_2, u0_3, u0_4, q0, s0_0, s0_1, s0_2, s0_3, s0_4⟩ := r0
  have q0 : cs0.toList = _ := q0
  obtain rfl : cs0 = _ := by rw [← Array.toArray_toList (xs := cs0), q0]
  have q1 : [Value.int .i64 n1] = [Value.int .i64 x1] := r1
  obtain rfl : x1 = n1 := by simpa using q1.symm
  have hlt : ∀ x ∈ p0 ++ (p1 ++ []), x.block < W.heap.size := fun x hx => hW'.lt x (by simpa using hx)
  refine ((c_law13_CountsLiars n (hw W) x0 u0_0 s0_0 u0_1 s0_1 u0_2 s0_2 u0_3 s0_3 u0_4 s0_4 x1 true hn) W (hw_le W)).mono fun e W' ⟨he, hb0⟩ => ?_
  have hb := hb0.plain rfl
  subst he
  refine ⟨_, rfl, _, _, _, [], p0 ++ (p1 ++ []), [], hW', trodAll_cons_mk (shut_bool Try.underlying4 _) trodAll_mk0, ?_, rfl, hb.frame _, fun h => by cases h⟩
  exact trodAll_cons_mk (Below.trod cl_laidOut (by kernel_rfl) (of_decide_eq_true (by kernel_rfl)) k0 hb (fun x hx => hlt x (List.mem_append_left _ hx))) (trodAll_cons_mk (Below.trod cl_laidOut (by kernel_rfl) (of_decide_eq_true (by kernel_rfl)) k1 hb (fun x hx => hlt x (List.mem_append_right _ (List.mem_append_left _ hx)))) trodAll_mk0)

set_option maxRecDepth 100000 in
theorem countsLiars_lifted (law : ∀ (x0 : Run) (x1 : Int), W_Run x0 → I64 x1 → ∃ n, F_law13_CountsLiars n x0 x1 = some true)
    (os : Os) (started : os.Started) (H : Type) (enc : TypeId × Value → H) :
    ReturnsInHanded {} Try.checked os 7 .any (Rows.countsLiarsSpec.pre6 enc Try.prog Try.f7 Rows.countsLiarsRow.domain false) (Rows.countsLiarsSpec.post enc Try.prog Try.f7 false true false false) := by
  refine returnsInHanded_of_change (C := Try.checked) cl_own started (by kernel_rfl) Try.func7
    (ChangeSpec.witness6 (enc := enc) (C := Try.checked) false ⟨#[], #[.agg #[.slice none 0 0, .int .i64 0, .int .i64 0, .int .i64 0, .int .i64 0, .int .i64 0, .int .i64 0, .slice none 0 0, .slice none 0 0, .slice none 0 0, .slice none 0 0, .int .i64 0], .int .i64 0], []⟩ 8 (by kernel_rfl) (by kernel_rfl) (by kernel_rfl) (by kernel_rfl)) ?_
  intro W base args ds gs before hval hW _ _
  exact countsLiars_contract law H enc W base args ds gs before hval hW

theorem countsLiars_holds (law : ∀ (x0 : Run) (x1 : Int), W_Run x0 → I64 x1 → ∃ n, F_law13_CountsLiars n x0 x1 = some true) : Rows.CountsLiarsSaid :=
  OpenClaim.holds_of_wide 7 Try.f7 rfl rfl rfl rfl rfl rfl rfl ⟨rfl, rfl, rfl, rfl, rfl⟩ rfl rfl rfl rfl rfl (by kernel_rfl) Try.func7 (by kernel_rfl)
    (of_decide_eq_true (by kernel_rfl)) (by unfold Func.isWrapper; first | (rw [if_pos (by decide +kernel)]; kernel_rfl) | (rw [if_neg (by decide +kernel)]; exact ⟨rfl, rfl⟩))
    (fun os started H enc _ => countsLiars_lifted law os started H enc)
theorem countsLiars_proved : Rows.CountsLiarsSaid := countsLiars_holds law_CountsLiars
end Go.Proofs.Ytcipdblhopffbaa
end
