/-
  A part of the proof of CDome: the texts Pcd, Pce, Pcf, EngN, Opn.
-/
import Derived.Test.YtcipdblhopffbaaJCDome12
import Derived.OpenShut
section
namespace Go.Proofs.Ytcipdblhopffbaa
open Go Go.RowKit Go.Dec
set_option linter.unusedVariables false

theorem mem_cases : ∀ {bl : List Blow} {c : List Int}, c ∈ casesS bl ↔ c.length = bl.length ∧ ∀ (i : Nat) (b : Blow) (x : Int), bl[i]? = some b → c[i]? = some x → b.Force.Low ≤ x ∧ x ≤ b.Force.High
  | [], c => by
    constructor
    · intro h; simp [casesS] at h; subst h; simp
    · rintro ⟨h, _⟩
      have : c = [] := List.eq_nil_of_length_eq_zero h
      subst this; simp [casesS]
  | b :: bl, c => by
    simp only [casesS, List.mem_flatMap, List.mem_map]
    constructor
    · rintro ⟨f, hf, c', hc, rfl⟩
      obtain ⟨h1, h2⟩ := mem_cases.1 hc
      refine ⟨by simp [h1], fun i b' x hb hx => ?_⟩
      cases i with
      | zero =>
        simp only [List.getElem?_cons_zero, Option.some.injEq] at hb hx
        subst hb; subst hx
        exact span_mem'.1 hf
      | succ i =>
        simp only [List.getElem?_cons_succ] at hb hx
        exact h2 i b' x hb hx
    · rintro ⟨h1, h2⟩
      cases c with
      | nil => simp at h1
      | cons f c =>
        refine ⟨f, span_mem'.2 (h2 0 b f rfl rfl), c, mem_cases.2 ⟨by simpa using h1, fun i b' x hb hx => h2 (i + 1) b' x (by simpa using hb) (by simpa using hx)⟩, rfl⟩
theorem blowAt_of {r : Run} {i : Int} {b : Blow} (h : r.Blows[i.toNat]? = some b) : blowAt r i = b := by unfold blowAt; rw [h]; rfl
theorem fixed_ok {r : Run} (hr : ROk r) {i : Int} (h0 : 0 ≤ i) (h1 : i < r.Blows.length) {f : Int} (hf1 : (blowAt r i).Force.Low ≤ f) (hf2 : f ≤ (blowAt r i).Force.High) : ROk (fixedS r i f) := by
  have hi : i.toNat < r.Blows.length := by omega
  have e : r.Blows[i.toNat]? = some r.Blows[i.toNat] := List.getElem?_eq_getElem hi
  have hb := hr.b _ (List.getElem_mem hi)
  rw [blowAt_of e] at hf1 hf2
  refine ⟨hr.d, by simpa [fixedS, setx] using hr.nb, hr.nm, fun b h => ?_, hr.m, hr.w⟩
  simp only [fixedS, setx] at h
  rcases List.mem_or_eq_of_mem_set h with h | rfl
  · exact hr.b b h
  · have := hb.lo; have := hb.hi
    exact ⟨by simp only [blowAt_of e]; exact hb.at_, by simp only; omega, by simp only; omega, by simp only; omega, by simp only; omega⟩
theorem fixed_cases {r : Run} {i : Int} (h0 : 0 ≤ i) (h1 : i < r.Blows.length) {f : Int} (hf1 : (blowAt r i).Force.Low ≤ f) (hf2 : f ≤ (blowAt r i).Force.High) {c : List Int} : c ∈ casesS (fixedS r i f).Blows ↔ c ∈ casesS r.Blows ∧ c[i.toNat]? = some f := by
  have hi : i.toNat < r.Blows.length := by omega
  have e : r.Blows[i.toNat]? = some r.Blows[i.toNat] := List.getElem?_eq_getElem hi
  rw [mem_cases, mem_cases]
  simp only [fixedS, setx, List.length_set]
  rw [blowAt_of e] at hf1 hf2 ⊢
  constructor
  · rintro ⟨hl, h⟩
    have hf : c[i.toNat]? = some f := by
      have hc : c[i.toNat]? = some (c[i.toNat]'(by omega)) := List.getElem?_eq_getElem (by omega)
      have := h i.toNat ⟨r.Blows[i.toNat].At, ⟨f, f⟩⟩ _ (by rw [List.getElem?_set, if_pos rfl, if_pos hi]) hc
      simp only at this
      rw [hc]; congr 1; omega
    refine ⟨⟨hl, fun j b x hb hx => ?_⟩, hf⟩
    by_cases hj : i.toNat = j
    · subst hj
      rw [e] at hb; cases hb
      rw [hf] at hx; cases hx
      exact ⟨hf1, hf2⟩
    · exact h j b x (by rw [List.getElem?_set_ne hj]; exact hb) hx
  · rintro ⟨⟨hl, h⟩, hf⟩
    refine ⟨hl, fun j b x hb hx => ?_⟩
    by_cases hj : i.toNat = j
    · subst hj
      rw [List.getElem?_set, if_pos rfl, if_pos hi] at hb
      cases hb
      rw [hf] at hx; cases hx
      exact ⟨Int.le_refl _, Int.le_refl _⟩
    · rw [List.getElem?_set_ne hj] at hb
      exact h j b x hb hx
theorem fixed_truths {r : Run} {i : Int} (h0 : 0 ≤ i) (h1 : i < r.Blows.length) {f : Int} (hf1 : (blowAt r i).Force.Low ≤ f) (hf2 : f ≤ (blowAt r i).Force.High) {c : List Int} : c ∈ truthsC (fixedS r i f) ↔ c ∈ truthsC r ∧ c[i.toNat]? = some f := by
  unfold truthsC
  rw [List.mem_filter, List.mem_filter, fixed_cases h0 h1 hf1 hf2]
  constructor
  · rintro ⟨⟨a, b⟩, c⟩; exact ⟨⟨a, c⟩, b⟩
  · rintro ⟨⟨a, c⟩, b⟩; exact ⟨⟨a, b⟩, c⟩
theorem fixed_err {r : Run} (hr : ROk r) {i : Int} (h0 : 0 ≤ i) (h1 : i < r.Blows.length) {f : Int} (hf1 : (blowAt r i).Force.Low ≤ f) (hf2 : f ≤ (blowAt r i).Force.High) : errR (fixedS r i f) true = 0 ↔ ∃ c ∈ truthsC r, c[i.toNat]? = some f := by
  rw [errR_true (fixed_ok hr h0 h1 hf1 hf2)]
  constructor
  · intro h
    split at h
    · cases h
    · rename_i hne
      obtain ⟨c, hc⟩ := List.exists_mem_of_ne_nil _ hne
      exact ⟨c, (fixed_truths h0 h1 hf1 hf2).1 hc⟩
  · rintro ⟨c, hc⟩
    rw [if_neg (fun e => by have := (fixed_truths h0 h1 hf1 hf2).2 hc; rw [e] at this; cases this)]
theorem truth_case {r : Run} {c : List Int} (h : c ∈ truthsC r) : c ∈ casesS r.Blows := (List.mem_filter.1 h).1
/-- the forces that a blow can have -/
theorem forces_mem {r : Run} (hr : ROk r) {i : Int} (h0 : 0 ≤ i) (h1 : i < r.Blows.length) {f : Int} : f ∈ forcesL r i ↔ ∃ c ∈ truthsC r, c[i.toNat]? = some f := by
  unfold forcesL
  rw [List.mem_filter, span_mem']
  constructor
  · rintro ⟨⟨a, b⟩, h⟩
    exact (fixed_err hr h0 h1 a b).1 (by simpa using h)
  · rintro ⟨c, hc, hf⟩
    have hi : i.toNat < r.Blows.length := by omega
    have e : r.Blows[i.toNat]? = some r.Blows[i.toNat] := List.getElem?_eq_getElem hi
    have := (mem_cases.1 (truth_case hc)).2 i.toNat _ f e hf
    rw [blowAt_of e]
    refine ⟨this, ?_⟩
    have h2 := (fixed_err hr h0 h1 (f := f) (by rw [blowAt_of e]; exact this.1) (by rw [blowAt_of e]; exact this.2)).2 ⟨c, hc, hf⟩
    simpa using h2
theorem span_sorted (a b : Int) : (span a b).Pairwise (· < ·) := by
  unfold span
  rw [List.pairwise_map]
  have : (List.range (b + 1 - a).toNat).Pairwise (· < ·) := List.pairwise_lt_range
  exact this.imp fun h => by omega
theorem forces_sorted (r : Run) (i : Int) : (forcesL r i).Pairwise (· < ·) := (span_sorted _ _).filter _
theorem forces_len {r : Run} (hr : ROk r) {i : Int} (h0 : 0 ≤ i) (h1 : i < r.Blows.length) : (forcesL r i).length ≤ 10 := by
  have hi : i.toNat < r.Blows.length := by omega
  have e : r.Blows[i.toNat]? = some r.Blows[i.toNat] := List.getElem?_eq_getElem hi
  have := (hr.b _ (List.getElem_mem hi)).gap
  refine Nat.le_trans (List.length_filter_le _ _) ?_
  rw [span_len, blowAt_of e]; omega
theorem len_le_total {L : List (List Int)} {T : Mp} (h : RM L T) : T.length ≤ L.length := by
  have h1 := h.total
  have : ∀ T : Mp, (∀ p ∈ T, 0 < p.2) → (T.length : Int) ≤ (T.map (·.2)).sum := by
    intro T
    induction T with
    | nil => intro _; simp
    | cons p T ih =>
      intro h
      have := h p (List.mem_cons_self ..)
      have := ih fun q hq => h q (List.mem_cons_of_mem _ hq)
      simp only [List.map_cons, List.sum_cons, List.length_cons]; omega
  have := this T h.pos
  omega
theorem rightX_read {r : Run} (hm : r.Meters.length ≤ 5) {a : Blow → Int → Bool} {c : List Int} (hc : c ∈ casesS r.Blows) {i : Int} (h0 : 0 ≤ i) (h1 : i < r.Meters.length) : ((readS r.Meters a r.Blows c zeroX).getD i.toNat 0 == (meterAt r i).Count) = rightC (meterAt r i) c := by
  have hi : i.toNat < r.Meters.length := by omega
  have e : r.Meters[i.toNat]? = some r.Meters[i.toNat] := List.getElem?_eq_getElem hi
  unfold meterAt rightC
  rw [e, readS_at hm hc e]; rfl

section
variable {n : Nat} (hn : 100000000 ≤ n)
include hn
omit hn in
theorem right_count {m : Int} {w : counts_test} (q : List Int → Bool) (T : Mp) (hq : ∀ p ∈ T, F_counts_test_right n w p.1 m = some (q p.1)) : ∀ (l : Mp) (s : Int), (∀ p ∈ l, p ∈ T) → 0 ≤ s → s + l.length ≤ 1000000000 → foldP (F_counts_Right_s1 n m w) s l = some (s + (l.countP fun p => q p.1 : Nat))
  | [], s, _, _, _ => by simp [foldP]
  | p :: l, s, h, h0, hb => by
    have hp := hq p (h p (List.mem_cons_self ..))
    simp only [List.length_cons] at hb
    obtain ⟨x, v⟩ := p
    simp only at hp
    rw [foldP, F_counts_Right_s1, hp]
    simp only [Option.bind_some, List.countP_cons]
    cases q x with
    | true =>
      simp only [if_true, Option.bind_some]
      rw [w64_id (by omega) (by omega), right_count q T hq l (s + 1) (fun z hz => h z (List.mem_cons_of_mem _ hz)) (by omega) (by omega)]
      congr 1; omega
    | false =>
      simp only [Bool.false_eq_true, if_false, Option.bind_some]
      rw [right_count q T hq l s (fun z hz => h z (List.mem_cons_of_mem _ hz)) (by omega) (by omega)]
      congr 1
theorem p_Right {r : Run} (hs : SmallR r) (i : Int) : F_counts_Right n r i = some (rightT r i) := by
  simp only [F_counts_Right, p_cwithin, Option.bind_some]
  rw [w64_id (by have := hs.2.2; omega) (by have := hs.2.2; omega)]
  simp only [p_openN hn hs, Option.bind_some, rightT]
  by_cases h : errR r (wi i 0 ((r.Meters.length : Int) - 1)) = 0
  · rw [if_pos h, if_pos h]
    obtain ⟨hr, hw, hne⟩ := errR_ok h
    have hi := wi_t.1 hw
    have hT := tally_ok (trs r fun _ _ => false)
    have hx : ∀ p ∈ tally (trs r fun _ _ => false), ∃ c ∈ truthsC r, p.1 = readS r.Meters (fun _ _ => false) r.Blows c zeroX := fun p hp => by
      have h1 := hT.key.1 ⟨p.2, hp⟩
      rw [trs_eq hr.nm] at h1
      obtain ⟨c, hc, e⟩ := List.mem_map.1 h1
      exact ⟨c, hc, e.symm⟩
    have h6 : ∀ p ∈ tally (trs r fun _ _ => false), p.1.length = 6 := fun p hp => (xok_of hr.nb p.1 (List.mem_filter.1 (hT.key.1 ⟨p.2, hp⟩)).1).1
    have hq : ∀ p ∈ tally (trs r fun _ _ => false), F_counts_test_right n ⟨r, fun a0_ a1_ => F_counts_none n a0_ a1_⟩ p.1 i = some (p.1.getD i.toNat 0 == (meterAt r i).Count) := fun p hp => by
      have := p_right hn (asked := fun a0_ a1_ => F_counts_none n a0_ a1_) (h6 p hp) hr.nm (i := i.toNat) (by omega)
      rw [show ((i.toNat : Nat) : Int) = i by omega] at this
      exact this
    have hlen : (tally (trs r fun _ _ => false)).length ≤ 100000000 := by
      have h1 := len_le_total hT
      have h2 : (trs r fun _ _ => false).length = (truthsC r).length := by rw [trs_eq hr.nm]; simp
      have := truths_len hr
      omega
    have hP : permO (F_counts_Right_s1 n i ⟨r, fun a0_ a1_ => F_counts_none n a0_ a1_⟩) 0 (tally (trs r fun _ _ => false)) = some (((tally (trs r fun _ _ => false)).countP fun p => p.1.getD i.toNat 0 == (meterAt r i).Count : Nat) : Int) := permO_of fun l hl => by
      rw [right_count (fun x => x.getD i.toNat 0 == (meterAt r i).Count) _ hq l 0 (fun p hp => hl.mem_iff.1 hp) (Int.le_refl _) (by rw [hl.length_eq]; omega), hl.countP_eq, Int.zero_add]
    simp only [bne_self_eq_false, Bool.false_eq_true, if_false, trs_ne h, Option.bind_some, hP]
    have all_iff : ((tally (trs r fun _ _ => false)).countP fun p => p.1.getD i.toNat 0 == (meterAt r i).Count) = (tally (trs r fun _ _ => false)).length ↔ ((truthsC r).all (rightC (meterAt r i))) = true := by
      rw [List.countP_eq_length, List.all_eq_true]
      constructor
      · intro h c hc
        obtain ⟨v, hv⟩ := hT.key.2 (show readS r.Meters (fun _ _ => false) r.Blows c zeroX ∈ _ by rw [trs_eq hr.nm]; exact List.mem_map.2 ⟨c, hc, rfl⟩)
        have := h _ hv
        rwa [rightX_read hr.nm (truth_case hc) hi.1 (by omega)] at this
      · intro h p hp
        obtain ⟨c, hc, e⟩ := hx p hp
        rw [e, rightX_read hr.nm (truth_case hc) hi.1 (by omega)]
        exact h c hc
    have none_iff : ((tally (trs r fun _ _ => false)).countP fun p => p.1.getD i.toNat 0 == (meterAt r i).Count) = 0 ↔ ((truthsC r).all fun c => !rightC (meterAt r i) c) = true := by
      rw [List.countP_eq_zero, List.all_eq_true]
      constructor
      · intro h c hc
        obtain ⟨v, hv⟩ := hT.key.2 (show readS r.Meters (fun _ _ => false) r.Blows c zeroX ∈ _ by rw [trs_eq hr.nm]; exact List.mem_map.2 ⟨c, hc, rfl⟩)
        have := h _ hv
        rw [rightX_read hr.nm (truth_case hc) hi.1 (by omega)] at this
        simpa using this
      · intro h p hp
        obtain ⟨c, hc, e⟩ := hx p hp
        rw [e, rightX_read hr.nm (truth_case hc) hi.1 (by omega)]
        simpa using h c hc
    generalize (List.countP (fun p : List Int × Int => p.1.getD i.toNat 0 == (meterAt r i).Count) (tally (trs r fun _ _ => false))) = K at all_iff none_iff ⊢
    generalize (tally (trs r fun _ _ => false)).length = Z at all_iff ⊢
    by_cases h1 : ((truthsC r).all (rightC (meterAt r i))) = true
    · rw [if_pos h1]
      have e : ((K : Int) == (Z : Int)) = true := by rw [all_iff.2 h1]; exact beq_self_eq_true _
      rw [e]; rfl
    · rw [if_neg h1]
      have e : ((K : Int) == (Z : Int)) = false := by
        rw [beq_eq_false_iff_ne]; intro e; exact h1 (all_iff.1 (by omega))
      rw [e]
      simp only [Bool.false_eq_true, if_false]
      by_cases h2 : ((truthsC r).all fun c => !rightC (meterAt r i) c) = true
      · rw [if_pos h2]
        have e : ((K : Int) == 0) = true := by rw [none_iff.2 h2]; rfl
        rw [e]; rfl
      · rw [if_neg h2]
        have e : ((K : Int) == 0) = false := by
          rw [beq_eq_false_iff_ne]; intro e; exact h2 (none_iff.1 (by omega))
        rw [e]; rfl
  · rw [if_neg h, if_neg h]
    have e : (errR r (wi i 0 ((r.Meters.length : Int) - 1)) != 0) = true := by simpa using h
    simp only [e, if_true]
theorem p_fixed {r : Run} (hs : SmallR r) {i : Int} (h0 : 0 ≤ i) (h1 : i < r.Blows.length) (f : Int) : F_counts_fixed n r i f = some (fixedS r i f) := by
  have _hn := hn
  have hi : i.toNat < r.Blows.length := by omega
  have e : r.Blows[i.toNat]? = some r.Blows[i.toNat] := List.getElem?_eq_getElem hi
  have hg : geti r.Blows i = some r.Blows[i.toNat] := by unfold geti; rw [if_pos h0, e]
  have hl : F_slices_Clone___api_Blow_api_Blow_ n r.Blows = some r.Blows := lim_ok (by have := hs.2.1; omega)
  simp only [F_counts_fixed, hl, Option.bind_some, hg, fixedS, blowAt_of e]
theorem p_Forces {r : Run} (hs : SmallR r) (i : Int) : F_counts_Forces n r i = some (forcesT r i) := by
  simp only [F_counts_Forces, p_cwithin, Option.bind_some]
  rw [w64_id (by have := hs.2.1; omega) (by have := hs.2.1; omega)]
  simp only [p_openN hn hs, Option.bind_some, forcesT]
  by_cases h : errR r (wi i 0 ((r.Blows.length : Int) - 1)) = 0
  · rw [if_pos h, if_pos h]
    obtain ⟨hr, hw, hne⟩ := errR_ok h
    have hi := wi_t.1 hw
    have h1 : i < r.Blows.length := by omega
    have hi' : i.toNat < r.Blows.length := by omega
    have e : r.Blows[i.toNat]? = some r.Blows[i.toNat] := List.getElem?_eq_getElem hi'
    have hg : geti r.Blows i = some (blowAt r i) := by unfold geti; rw [if_pos hi.1, e, blowAt_of e]
    have hb := hr.b _ (List.getElem_mem hi')
    rw [← blowAt_of e] at hb
    have hlo := hb.lo; have hhi := hb.hi; have hgap := hb.gap
    have hl := loop_span_fold (step := F_counts_Forces_s1 n r i) (fun f (out : List Int) => (f, out)) (fun out f => if (errR (fixedS r i f) true == 0) = true then out ++ [f] else out) (fun out => out) (fun f out => (out.length : Int) ≤ f - (blowAt r i).Force.Low) (hi := (blowAt r i).Force.High) _ (blowAt r i).Force.Low [] n rfl (by simp) (fun f out h2 h3 hI => by
      have hsF : SmallR (fixedS r i f) := ⟨hs.1, by simpa [fixedS, setx] using hs.2.1, hs.2.2⟩
      simp only [F_counts_Forces_s1, hg, Option.bind_some, h3, decide_true, if_true, p_fixed hn hs hi.1 h1, p_openN hn hsF]
      rw [w64_id (by omega) (by omega)]
      by_cases he : errR (fixedS r i f) true = 0
      · have hlim : lim (out ++ [f]) = some (out ++ [f]) := lim_ok (by simp; omega)
        simp only [he, if_true, beq_self_eq_true, hlim, Option.bind_some]
        refine ⟨by first | rfl | trivial, ?_⟩
        rw [List.length_append]; simp; omega
      · have e2 : (errR (fixedS r i f) true == 0) = false := by simpa using he
        simp only [he, if_false, e2, Bool.false_eq_true, Option.bind_some]
        exact ⟨by first | rfl | trivial, by omega⟩) (fun f out h2 h3 hI => by
      simp only [F_counts_Forces_s1, hg, Option.bind_some]
      rw [show decide (f ≤ (blowAt r i).Force.High) = false from decide_eq_false (by omega)]
      rfl) (by omega)
    simp only [bne_self_eq_false, Bool.false_eq_true, if_false, hg, Option.bind_some, hl.1, foldl_filter_append, List.nil_append]
    rfl
  · rw [if_neg h, if_neg h]
    have e : (errR r (wi i 0 ((r.Blows.length : Int) - 1)) != 0) = true := by simpa using h
    simp only [e, if_true]

/-! ### the small functions of the statements -/
omit hn in
theorem sameI_spec (a b : List Int) : (decide (a.length = b.length) && (List.range a.length).all fun i => a[i]? == b[i]?) = decide (a = b) := by
  rw [Bool.eq_iff_iff]
  simp only [Bool.and_eq_true, decide_eq_true_eq, List.all_eq_true, List.mem_range, beq_iff_eq]
  constructor
  · rintro ⟨h1, h2⟩
    apply List.ext_getElem?
    intro i
    by_cases hi : i < a.length
    · exact h2 i hi
    · rw [List.getElem?_eq_none (by omega), List.getElem?_eq_none (by omega)]
  · rintro rfl; exact ⟨rfl, fun _ _ => rfl⟩
theorem p_sameI {a b : List Int} (ha : a.length ≤ 1000) : F_law13_sameInts n a b = some (decide (a = b)) := by
  rw [← sameI_spec]
  unfold F_law13_sameInts
  by_cases h : a.length = b.length
  · have e : ((a.length : Int) != (b.length : Int)) = false := by simp [h]
    rw [e]
    simp only [Bool.false_eq_true, if_false]
    have kk := loop_all (step := F_law13_sameInts_s1 n a b) a.length (fun i => a[i]? == b[i]?) false (n := n) (by omega) (fun i hi => ?_) ?_ (by omega)
    · rw [kk]
      cases ((List.range a.length).all fun i => a[i]? == b[i]?) <;> simp [h]
    · have h1 : a[i]? = some a[i] := List.getElem?_eq_getElem hi
      have h2 : b[i]? = some (b[i]'(by omega)) := List.getElem?_eq_getElem (by omega)
      simp only [F_law13_sameInts_s1, lt_nat, hi, decide_true, if_true, geti_nat, h1, h2, Option.bind_some, w64_nat (show i ≤ 4611686018427387904 by omega)]
      by_cases hab : a[i] = b[i]'(by omega)
      · simp [hab]
      · have e1 : (a[i] != b[i]'(by omega)) = true := by simpa using hab
        have e2 : (a[i] == b[i]'(by omega)) = false := by simpa using hab
        simp [e1, hab, e2]
    · simp [F_law13_sameInts_s1]
  · have e : ((a.length : Int) != (b.length : Int)) = true := by simp; omega
    rw [e]; simp [h]
theorem p_hasI {l : List Int} (hl : l.length ≤ 1000) (x : Int) : F_law13_has n l x = some (l.contains x) := by
  unfold F_law13_has
  have kk := loop_all_l (step := F_law13_has_s1 n l x) l (fun y => !(y == x)) true (n := n) (by omega) (fun i y hy hi => by
    simp only [F_law13_has_s1, lt_nat, hi, decide_true, if_true, geti_nat, hy, Option.bind_some, w64_nat (show i ≤ 4611686018427387904 by omega)]
    cases (y == x) <;> rfl) (by simp [F_law13_has_s1]) (by omega)
  rw [kk]
  have : (l.all fun y => !(y == x)) = !l.contains x := by
    rw [Bool.eq_iff_iff, Bool.not_eq_true', ← Bool.not_eq_true]
    simp only [List.all_eq_true, List.contains_eq_mem, decide_eq_true_eq, Bool.not_eq_true', beq_eq_false_iff_ne, ne_eq]
    constructor
    · intro h hx; exact h x hx rfl
    · intro h y hy e; subst e; exact h hy
  rw [this]
  cases l.contains x <;> rfl
theorem p_Copy13 {r : Run} (hs : SmallR r) : F_ref13_Copy n r = some r := by
  simp only [F_ref13_Copy, p_Copy05 hn hs.1, Option.bind_some, List.nil_append]
  rw [lim_ok (by have := hs.2.1; omega), lim_ok (by have := hs.2.2; omega)]
  rfl
theorem p_Far13 (r : Run) : F_law13_Far n r = some true ∨ (F_law13_Far n r = some false ∧ SmallR r ∧ r.Blows.length ≤ 40 ∧ r.Meters.length ≤ 40) := by
  unfold F_law13_Far
  rcases p_Far hn r.Canopy with h | ⟨h, hs, h1, h2, h3⟩
  · left; rw [h]; rfl
  · rw [h]
    simp only [Option.bind_some, Bool.false_or]
    by_cases h4 : 40 < (r.Blows.length : Int)
    · left; simp [h4]
    · by_cases h5 : 40 < (r.Meters.length : Int)
      · left; simp [h5]
      · have hsr : SmallR r := ⟨hs, by omega, by omega⟩
        have e4 : decide (40 < (r.Blows.length : Int)) = false := decide_eq_false h4
        have e5 : decide (40 < (r.Meters.length : Int)) = false := decide_eq_false h5
        simp only [e4, e5, Bool.false_or, Bool.false_eq_true, if_false, p_Check13 hn hsr, Option.bind_some]
        by_cases h6 : checkR r = 0
        · have hr := checkR_ok.1 h6
          have e6 : (checkR r != 0) = false := by simp [h6]
          rw [e6]
          simp only [Bool.false_eq_true, if_false]
          have key : ∀ (k i : Nat) (m : Int) (fuel : Nat), i + k = r.Blows.length → 1 ≤ m → m ≤ 600 → k < fuel → ∃ v, loopO fuel (F_law13_Far_s1 n r) (m, (i : Int)) = some v ∧ (v = .inl true ∨ v = .inr ()) := by
            intro k
            induction k with
            | zero =>
              intro i m fuel hi _ _ hf
              refine ⟨.inr (), loop_done ?_ hf, .inr rfl⟩
              have : i = r.Blows.length := by omega
              subst this
              simp [F_law13_Far_s1]
            | succ k ih =>
              intro i m fuel hi h1 h2 hf
              obtain ⟨fuel, rfl⟩ : ∃ k, fuel = k + 1 := ⟨fuel - 1, by omega⟩
              have hlt : i < r.Blows.length := by omega
              have e : r.Blows[i]? = some r.Blows[i] := List.getElem?_eq_getElem hlt
              have hb := hr.b _ (List.getElem_mem hlt)
              have hg := hb.gap; have hle := hb.le; have := hb.lo; have := hb.hi
              have hm1 := mul_in (x := m) (y := r.Blows[i].Force.High - r.Blows[i].Force.Low + 1) (A := 600) (C := 10) (by omega) h2 (by omega) (by omega)
              have hm2 : 1 ≤ m * (r.Blows[i].Force.High - r.Blows[i].Force.Low + 1) := by
                have := Int.mul_le_mul h1 (show 1 ≤ r.Blows[i].Force.High - r.Blows[i].Force.Low + 1 by omega) (by omega) (by omega)
                omega
              rw [loopO_succ]
              simp only [F_law13_Far_s1, lt_nat, hlt, decide_true, if_true, geti_nat, e, Option.bind_some]
              rw [w64_id (n := r.Blows[i].Force.High - r.Blows[i].Force.Low) (by omega) (by omega), w64_id (n := r.Blows[i].Force.High - r.Blows[i].Force.Low + 1) (by omega) (by omega), w64_id (by omega) (by omega), w64_nat (show i ≤ 4611686018427387904 by have := hr.nb; omega)]
              by_cases hbig : 600 < m * (r.Blows[i].Force.High - r.Blows[i].Force.Low + 1)
              · rw [if_pos (by simpa using hbig)]
                exact ⟨_, rfl, .inl rfl⟩
              · rw [if_neg (by simpa using hbig)]
                exact ih (i + 1) _ fuel (by omega) hm2 (by omega) (by omega)
          obtain ⟨v, hv, hv2⟩ := key r.Blows.length 0 1 n (by omega) (by omega) (by omega) (by have := hr.nb; omega)
          simp only [Int.natCast_zero] at hv
          rw [hv]
          rcases hv2 with rfl | rfl
          · left; rfl
          · right; exact ⟨rfl, hsr, by omega, by omega⟩
        · right
          have e6 : (checkR r != 0) = true := by simpa using h6
          rw [e6]
          exact ⟨rfl, hsr, by omega, by omega⟩
/-- what 'ready' says -/
theorem p_ready (r : Run) : F_law13_ready n r = some false ∨ (F_law13_ready n r = some true ∧ ROk r) := by
  unfold F_law13_ready
  rcases p_Far13 hn r with h | ⟨h, hs, _⟩
  · left; rw [h]; rfl
  · rw [h]
    simp only [Option.bind_some, Bool.not_false, if_true, p_Check13 hn hs]
    by_cases h6 : checkR r = 0
    · right; exact ⟨by simp [h6], checkR_ok.1 h6⟩
    · left
      have : (checkR r == 0) = false := by simpa using h6
      rw [this]
end
/-! ### the example -/
def exR : Run := ⟨exD, [⟨0, ⟨10, 14⟩⟩, ⟨0, ⟨12, 15⟩⟩, ⟨3, ⟨4, 6⟩⟩], [⟨13, 1⟩, ⟨5, 3⟩], 0⟩
set_option maxRecDepth 1000000 in
theorem ex_small : SmallR exR := by refine ⟨⟨?_, ?_, ?_⟩, ?_, ?_⟩ <;> decide
set_option maxRecDepth 1000000 in
theorem ex_forces : forcesT exR 2 = ([5, 6], 0) := by kernel_rfl
set_option maxRecDepth 1000000 in
theorem ex_many : manyT exR = (22, 0) := by kernel_rfl
set_option maxRecDepth 1000000 in
theorem ex_harm : harmT exR = (⟨0, 2⟩, 0) := by kernel_rfl
theorem ex_err : errR exR true = 0 := by
  have h := ex_many
  unfold manyT at h
  split at h
  · assumption
  · rename_i hne
    simp only [Prod.mk.injEq] at h
    exact absurd h.2 hne
theorem ex_stood : stoodT exR = (3, 0) := by
  unfold stoodT
  rw [if_pos ex_err, ex_harm]; rfl
theorem ex_of (n : Nat) : F_law13_Example n = some exR := rfl
theorem works13 {n : Nat} (hn : 100000000 ≤ n) : F_law13_works n = some true := by
  simp only [F_law13_works, ex_of, Option.bind_some, p_Forces hn ex_small, p_Many hn ex_small, p_Harm hn ex_small, p_Stood hn ex_small, ex_forces, ex_many, ex_harm, ex_stood, p_sameI hn (a := [5, 6]) (b := [5, 6]) (by decide)]
  rfl
end Go.Proofs.Ytcipdblhopffbaa
end
section
namespace Go.Proofs.Ytcipdblhopffbaa
open Go Go.RowKit Go.Dec
set_option linter.unusedVariables false

theorem fmin_le_of {α : Type} {f g : α → Int} {l m : List α} (h : ∀ x ∈ m, ∃ y ∈ l, f y ≤ g x) (s : Int) : fmin f l s ≤ fmin g m s := by
  obtain ⟨⟨a1, a2⟩, _⟩ := fmin_spec f l s
  obtain ⟨_, b3⟩ := fmin_spec g m s
  rcases b3 with e | ⟨x, hx, e⟩
  · omega
  · obtain ⟨y, hy, hle⟩ := h x hx
    have := a2 y hy; omega
theorem fmax_le_of {α : Type} {f g : α → Int} {l m : List α} (h : ∀ x ∈ m, ∃ y ∈ l, g x ≤ f y) (s : Int) : fmax g m s ≤ fmax f l s := by
  obtain ⟨⟨a1, a2⟩, _⟩ := fmax_spec f l s
  obtain ⟨_, b3⟩ := fmax_spec g m s
  rcases b3 with e | ⟨x, hx, e⟩
  · omega
  · obtain ⟨y, hy, hle⟩ := h x hx
    have := a2 y hy; omega
theorem askN_le (a : Blow → Int → Bool) (bl : List Blow) (c : List Int) : askN a bl c ≤ bl.length := by
  unfold askN
  refine Nat.le_trans List.countP_le_length ?_
  rw [List.length_zip]; omega
theorem harm_low {r : Run} (hr : ROk r) (h : errR r true = 0) : (harmT r).1 = ⟨fmin (fun c => (askN (fellA r.Canopy true) r.Blows c : Int)) (truthsC r) r.Blows.length, fmax (fun c => (askN (fellA r.Canopy false) r.Blows c : Int)) (truthsC r) 0⟩ := by
  unfold harmT; rw [if_pos h]
theorem harm_err (r : Run) : (harmT r).2 = errR r true := by
  unfold harmT
  split
  · rename_i h; exact h.symm
  · rfl
theorem many_err (r : Run) : (manyT r).2 = errR r true := by
  unfold manyT
  split
  · rename_i h; exact h.symm
  · rfl
theorem stood_err (r : Run) : (stoodT r).2 = errR r true := by
  unfold stoodT
  split
  · rename_i h; exact h.symm
  · rfl
theorem forces_in {r : Run} {i : Int} (h0 : 0 ≤ i) (h1 : i < r.Blows.length) : forcesT r i = if errR r true = 0 then (forcesL r i, 0) else ([], errR r true) := by
  have e : wi i 0 ((r.Blows.length : Int) - 1) = true := wi_t.2 ⟨h0, by omega⟩
  unfold forcesT; rw [e]
theorem right_in {r : Run} {i : Int} (h0 : 0 ≤ i) (h1 : i < r.Meters.length) : rightT r i = (if errR r true = 0 then (if ((truthsC r).all (rightC (meterAt r i))) = true then 1 else if ((truthsC r).all fun c => !rightC (meterAt r i) c) = true then 2 else 3, 0) else (0, errR r true)) := by
  have e : wi i 0 ((r.Meters.length : Int) - 1) = true := wi_t.2 ⟨h0, by omega⟩
  unfold rightT; rw [e]
theorem reads_in {r : Run} {a : Int} (h0 : 0 ≤ a) (h1 : a ≤ 99) : readsT r a = (if errR r true = 0 then (⟨fmin (fun c => (askN (readsA a) r.Blows c : Int)) (truthsC r) r.Blows.length, fmax (fun c => (askN (readsA a) r.Blows c : Int)) (truthsC r) 0⟩, 0) else (⟨0, 0⟩, errR r true)) := by
  have e : wi a 0 99 = true := wi_t.2 ⟨h0, h1⟩
  unfold readsT boundsT; rw [e]
/-- the forces of a blow do not hang on more than the truths -/
theorem forces_sub {a b : Run} (ha : ROk a) (hb : ROk b) (hbl : a.Blows = b.Blows) {i : Int} (h0 : 0 ≤ i) (h1 : i < a.Blows.length) (ht : ∀ c ∈ truthsC a, c ∈ truthsC b) : (∀ x ∈ forcesL a i, x ∈ forcesL b i) ∧ (forcesL a i).length ≤ (forcesL b i).length := by
  have hsub : ∀ x ∈ forcesL a i, x ∈ forcesL b i := fun x hx => by
    obtain ⟨c, hc, e⟩ := (forces_mem ha h0 h1).1 hx
    exact (forces_mem hb h0 (by rw [← hbl]; exact h1)).2 ⟨c, ht c hc, e⟩
  refine ⟨hsub, ?_⟩
  have e : blowAt a i = blowAt b i := by unfold blowAt; rw [hbl]
  unfold forcesL at hsub ⊢
  rw [e] at hsub ⊢
  rw [← List.countP_eq_length_filter, ← List.countP_eq_length_filter]
  refine List.countP_mono_left fun x hx hp => ?_
  exact (List.mem_filter.1 (hsub x (List.mem_filter.2 ⟨hx, hp⟩))).2
theorem truths_ext {a b : Run} (hbl : a.Blows = b.Blows) (ht : ∀ c ∈ casesS a.Blows, truthC a c = truthC b c) : truthsC a = truthsC b := by
  unfold truthsC
  rw [← hbl]
  exact List.filter_congr ht
theorem forces_eq {a b : Run} (ha : ROk a) (hb : ROk b) (hbl : a.Blows = b.Blows) {i : Int} (h0 : 0 ≤ i) (h1 : i < a.Blows.length) (ht : truthsC a = truthsC b) : forcesL a i = forcesL b i := by
  have e : blowAt a i = blowAt b i := by unfold blowAt; rw [hbl]
  have h2 := (forces_sub ha hb hbl h0 h1 (by rw [ht]; exact fun c h => h)).1
  have h3 := (forces_sub hb ha hbl.symm h0 (by rw [← hbl]; exact h1) (by rw [ht]; exact fun c h => h)).1
  unfold forcesL at h2 h3 ⊢
  rw [e] at h2 h3 ⊢
  refine List.filter_congr fun x hx => ?_
  rw [Bool.eq_iff_iff]
  exact ⟨fun hp => (List.mem_filter.1 (h2 x (List.mem_filter.2 ⟨hx, hp⟩))).2, fun hp => (List.mem_filter.1 (h3 x (List.mem_filter.2 ⟨hx, hp⟩))).2⟩
theorem truths_pos {r : Run} {is : Bool} (h : errR r is = 0) : 1 ≤ (truthsC r).length := by
  obtain ⟨_, _, h3⟩ := errR_ok h
  exact List.length_pos_iff.2 h3
section
variable {n : Nat} (hn : 100000000 ≤ n)
include hn
/-- all that can be so of a run can be so of another one -/
theorem p_inside {a b : Run} (ha : ROk a) (hb : ROk b) (hbl : a.Blows = b.Blows) (hd : a.Canopy = b.Canopy) {i : Int} (h0 : 0 ≤ i) (h1 : i < a.Blows.length) (ht : ∀ c ∈ truthsC a, c ∈ truthsC b) : F_law13_inside n a b i = some true := by
  have h1' : i < b.Blows.length := by rw [← hbl]; exact h1
  have hf := forces_sub ha hb hbl h0 h1 ht
  have hl := forces_len ha h0 h1
  have hl' := forces_len hb h0 h1'
  simp only [F_law13_inside, p_Many hn ha.small, p_Many hn hb.small, p_Forces hn ha.small, p_Forces hn hb.small, p_Harm hn ha.small, p_Harm hn hb.small, Option.bind_some, harm_err, many_err, forces_in h0 h1, forces_in h0 h1']
  rcases errR_three ha with ea | ea
  · have eb : errR b true = 0 := by
      rw [errR_true hb, if_neg]
      obtain ⟨_, _, h3⟩ := errR_ok ea
      obtain ⟨c, hc⟩ := List.exists_mem_of_ne_nil _ h3
      intro e
      have := ht c hc
      rw [e] at this; cases this
    have hm : (truthsC a).length ≤ (truthsC b).length := by
      unfold truthsC at ht ⊢
      rw [← hbl] at ht ⊢
      rw [← List.countP_eq_length_filter, ← List.countP_eq_length_filter]
      exact List.countP_mono_left fun x hx hp => (List.mem_filter.1 (ht x (List.mem_filter.2 ⟨hx, hp⟩))).2
    have hp := truths_pos ea
    have kk := loop_all_l (step := F_law13_inside_s1 n (forcesL a i, 0) (forcesL b i, 0)) (forcesL a i) (fun x => (forcesL b i).contains x) false (n := n) (by omega) (fun j y hy hj => by
      simp only [F_law13_inside_s1, lt_nat, hj, decide_true, if_true, geti_nat, hy, Option.bind_some, p_hasI hn (l := forcesL b i) (by omega), w64_nat (show j ≤ 4611686018427387904 by omega)]
      cases (forcesL b i).contains y <;> rfl) (by simp [F_law13_inside_s1]) (by omega)
    have hall : ((forcesL a i).all fun x => (forcesL b i).contains x) = true := List.all_eq_true.2 fun x hx => by simpa using hf.1 x hx
    rw [hall] at kk
    simp only [ea, eb, if_true, bne_self_eq_false, Bool.or_self, Bool.false_and, Bool.or_false, Bool.false_or, Bool.and_false, kk, Option.bind_some, cond_true, harm_low ha ea, harm_low hb eb, manyT, Bool.false_eq_true, if_false]
    have e1 : decide (((forcesL b i).length : Int) < ((forcesL a i).length : Int)) = false := decide_eq_false (by have := hf.2; omega)
    have e2 : decide (((truthsC b).length : Int) < ((truthsC a).length : Int)) = false := decide_eq_false (by omega)
    have e3 : decide ((1 : Int) ≤ ((truthsC a).length : Int)) = true := decide_eq_true (by omega)
    have e4 := fmin_le_of (f := fun c => (askN (fellA b.Canopy true) b.Blows c : Int)) (g := fun c => (askN (fellA a.Canopy true) a.Blows c : Int)) (l := truthsC b) (m := truthsC a) (fun x hx => ⟨x, ht x hx, by rw [hbl, hd]; exact Int.le_refl _⟩) a.Blows.length
    have e5 := fmax_le_of (f := fun c => (askN (fellA b.Canopy false) b.Blows c : Int)) (g := fun c => (askN (fellA a.Canopy false) a.Blows c : Int)) (l := truthsC b) (m := truthsC a) (fun x hx => ⟨x, ht x hx, by rw [hbl, hd]; exact Int.le_refl _⟩) 0
    have e6 : ((b.Blows.length : Nat) : Int) = (a.Blows.length : Nat) := by rw [hbl]
    rw [e6]
    have e7 := decide_eq_true e4
    have e8 := decide_eq_true e5
    simp only [e1, e2, e3, e7, e8]
    rfl
  · rcases errR_three hb with eb | eb
    · simp [ea, eb, manyT]
    · simp [ea, eb, manyT]
end
theorem wrong_snoc (ms : List Meter) (m : Meter) (c : List Int) : wrongC (ms ++ [m]) c = wrongC ms c + (if rightC m c = true then 0 else 1) := by
  unfold wrongC
  rw [List.countP_append, List.countP_cons, List.countP_nil]
  cases h : rightC m c <;> simp
end Go.Proofs.Ytcipdblhopffbaa
end
section
namespace Go.Proofs.Ytcipdblhopffbaa
open Go Go.RowKit Go.Dec
theorem stands_less {d o : Canopy} (hd : DOk d) (hdo : DOk o) (same : Same d o) (hB : ∀ j, j < d.Ribs.length → stB d j ≤ stB o j) (hW : ∀ j, j < d.Ribs.length → stW d j ≤ stW o j) {f f' a : Int} (h0 : 0 ≤ f') (hl : f' ≤ f) :
    (standsI d [⟨f, a⟩] = 1 → standsI o [⟨f', a⟩] = 1) ∧ (standsI o [⟨f', a⟩] = 2 → standsI d [⟨f, a⟩] = 2) := by
  have first : ∀ j, j < d.Ribs.length → firstP o ⟨f', a⟩ j = true → firstP d ⟨f, a⟩ j = true := fun j hj h => by
    unfold firstP at h ⊢
    rw [same.n] at h
    exact less_may (g := ⟨f, a⟩) (g' := ⟨f', a⟩) hd same rfl h0 hl hW hj h
  have firstb : ∀ j, j < d.Ribs.length → firstB o ⟨f', a⟩ j = true → firstB d ⟨f, a⟩ j = true := fun j hj h => by
    unfold firstB at h ⊢
    rw [same.n] at h
    exact less_sure (g := ⟨f, a⟩) (g' := ⟨f', a⟩) hd same rfl h0 hl hB hj h
  constructor
  · intro hc
    rw [stands_one] at hc ⊢
    intro z hz
    rw [List.mem_singleton.1 hz, same.n]
    exact noneP_mono first (hc _ (by simp))
  · intro hc
    rw [stands_two hdo (fun z hz => by rw [List.mem_singleton.1 hz]; exact h0)] at hc
    rw [stands_two hd (fun z hz => by rw [List.mem_singleton.1 hz]; exact Int.le_trans h0 hl)]
    intro hall
    refine hc fun z hz => ?_
    rw [List.mem_singleton.1 hz, same.n]
    exact noneP_mono firstb (hall _ (by simp))
theorem stands_val (d : Canopy) (l : List Gust) : standsI d l = 1 ∨ standsI d l = 2 ∨ standsI d l = 3 := by
  unfold standsI
  split
  · exact .inl rfl
  · split
    · exact .inr (.inr rfl)
    · exact .inr (.inl rfl)
theorem fell_t {d : Canopy} {b : Blow} {f : Int} : fellA d true b f = true ↔ standsI d [⟨f, b.At⟩] = 2 := by simp [fellA]
theorem fell_f {d : Canopy} {b : Blow} {f : Int} : fellA d false b f = true ↔ standsI d [⟨f, b.At⟩] ≠ 1 := by
  rcases stands_val d [⟨f, b.At⟩] with h | h | h <;> simp [fellA, h]
theorem fell_less {d o : Canopy} (hd : DOk d) (hdo : DOk o) (same : Same d o) (hB : ∀ j, j < d.Ribs.length → stB d j ≤ stB o j) (hW : ∀ j, j < d.Ribs.length → stW d j ≤ stW o j) {b : Blow} {f f' : Int} (h0 : 0 ≤ f') (hl : f' ≤ f) (s : Bool)
    (h : fellA o s b f' = true) : fellA d s b f = true := by
  have hh := stands_less hd hdo same hB hW (a := b.At) h0 hl
  cases s with
  | true => exact fell_t.2 (hh.2 (fell_t.1 h))
  | false => exact fell_f.2 (fun e => fell_f.1 h (hh.1 e))
theorem askN_mono {a a' : Blow → Int → Bool} {bl : List Blow} {c : List Int} (h : ∀ p ∈ bl.zip c, a p.1 p.2 = true → a' p.1 p.2 = true) : askN a bl c ≤ askN a' bl c := by
  unfold askN
  exact List.countP_mono_left h
theorem fell_tf {d : Canopy} {b : Blow} {f : Int} (h : fellA d true b f = true) : fellA d false b f = true := fell_f.2 (by rw [fell_t.1 h]; decide)
theorem askN_pos {a : Blow → Int → Bool} {bl : List Blow} {c : List Int} {i : Nat} {b : Blow} {f : Int} (hb : bl[i]? = some b) (hc : c[i]? = some f) (h : a b f = true) : 1 ≤ askN a bl c := by
  unfold askN
  have hm : (b, f) ∈ bl.zip c := List.mem_of_getElem? (i := i) (by rw [List.getElem?_zip_eq_some]; exact ⟨hb, hc⟩)
  exact List.countP_pos_iff.2 ⟨_, hm, h⟩
theorem zip_case {bl : List Blow} {c : List Int} (hc : c ∈ casesS bl) {p : Blow × Int} (hp : p ∈ bl.zip c) : p.1 ∈ bl ∧ p.1.Force.Low ≤ p.2 ∧ p.2 ≤ p.1.Force.High := by
  obtain ⟨i, hi⟩ := List.mem_iff_getElem?.1 hp
  rw [List.getElem?_zip_eq_some] at hi
  exact ⟨List.mem_of_getElem? hi.1, (mem_cases.1 hc).2 i _ _ hi.1 hi.2⟩
/-- what is known of Harm -/
theorem harm_spec {r : Run} (e : errR r true = 0) : 0 ≤ (harmT r).1.Low ∧ (harmT r).1.Low ≤ (harmT r).1.High ∧ (harmT r).1.High ≤ r.Blows.length ∧ (∀ c ∈ truthsC r, (harmT r).1.Low ≤ (askN (fellA r.Canopy true) r.Blows c : Int) ∧ (askN (fellA r.Canopy false) r.Blows c : Int) ≤ (harmT r).1.High)
    ∧ (harmT r).1.Low = fmin (fun c => (askN (fellA r.Canopy true) r.Blows c : Int)) (truthsC r) r.Blows.length ∧ (harmT r).1.High = fmax (fun c => (askN (fellA r.Canopy false) r.Blows c : Int)) (truthsC r) 0 := by
  obtain ⟨hr, _, hne⟩ := errR_ok e
  rw [harm_low hr e]
  simp only
  obtain ⟨⟨l1, l2⟩, l3⟩ := fmin_spec (fun c => (askN (fellA r.Canopy true) r.Blows c : Int)) (truthsC r) r.Blows.length
  obtain ⟨⟨u1, u2⟩, u3⟩ := fmax_spec (fun c => (askN (fellA r.Canopy false) r.Blows c : Int)) (truthsC r) 0
  obtain ⟨c, hc⟩ := List.exists_mem_of_ne_nil _ hne
  have h1 := l2 c hc
  have h2 := u2 c hc
  have h3 : askN (fellA r.Canopy true) r.Blows c ≤ askN (fellA r.Canopy false) r.Blows c := askN_mono fun p _ h => fell_tf h
  refine ⟨?_, ?_, ?_, fun c hc => ⟨l2 c hc, u2 c hc⟩, trivial, trivial⟩
  · rcases l3 with h | ⟨x, _, h⟩ <;> omega
  · omega
  · rcases u3 with h | ⟨x, _, h⟩
    · omega
    · have := askN_le (fellA r.Canopy false) r.Blows x; omega
theorem forces_at {r : Run} (e : errR r true = 0) {i : Nat} (hi : i < r.Blows.length) : (∀ f ∈ forcesL r (i : Int), 0 ≤ f ∧ f ≤ 99) ∧ forcesL r (i : Int) ≠ [] := by
  obtain ⟨hr, _, hne⟩ := errR_ok e
  constructor
  · intro f hf
    obtain ⟨c, hc, h⟩ := (forces_mem hr (by omega) (by omega)).1 hf
    rw [Int.toNat_natCast] at h
    have hb := hr.b _ (List.getElem_mem hi)
    have h2 := (mem_cases.1 (truth_case hc)).2 i _ _ (List.getElem?_eq_getElem hi) h
    have := hb.lo; have := hb.hi
    omega
  · obtain ⟨c, hc⟩ := List.exists_mem_of_ne_nil _ hne
    have hl := casesS_len (truth_case hc)
    have : c[i] ∈ forcesL r (i : Int) := (forces_mem hr (by omega) (by omega)).2 ⟨c, hc, by rw [Int.toNat_natCast]; exact List.getElem?_eq_getElem (by omega)⟩
    intro h0
    rw [h0] at this; cases this
theorem sorted_head : ∀ {l : List Int}, l.Pairwise (· < ·) → ∀ {x}, l[0]? = some x → ∀ y ∈ l, x ≤ y
  | [], _, _, h, _, _ => by simp at h
  | a :: l, hp, x, h, y, hy => by
    obtain rfl : a = x := by simpa using h
    rcases List.mem_cons.1 hy with rfl | hy
    · exact Int.le_refl _
    · exact Int.le_of_lt ((List.pairwise_cons.1 hp).1 y hy)
end Go.Proofs.Ytcipdblhopffbaa
end
section
namespace Go.Dec
open Go Go.RowKit

theorem Kept.plain {H : Hp} {w w' : World} (h : Kept H w w') (hh : H.hole = none) : Below w.heap.size w w' :=
  ⟨h.below.os, h.below.tape, h.below.output, h.below.size, fun k hk => h.below.block k hk (fun I e => by rw [hh] at e; cases e)⟩
theorem okWide_array {P : Program} {w : World} {r : Reach} {base : Nat} {t : TypeId} {v : Value} {n : Nat} {e : TypeId} (ht : P.underlying t = some (.array n e)) (h : Value.okWide P w r base t v) : ∃ cs, v = .agg cs ∧ cs.size = P.cellsOf t := by
  simp only [Value.okWide, ht] at h
  obtain ⟨cs, h1, h2, _⟩ := h
  exact ⟨cs, h1, h2⟩
def RArr : Rl (List Int) := fun _ cs x => cs = x.map (Value.int .i64)
theorem Opens.arr {T : Type} {enc : TypeId × Value → T} {P : Program} {t e : TypeId} {n : Nat} (ht : P.underlying t = some (.array n e)) (he : P.underlying e = some (.int .i64)) (hc : P.cellsOf e = 1) (hct : P.cellsOf t = n) : Opens enc P t n RArr (fun l => l.length = n ∧ ∀ x ∈ l, I64 x) := by
  intro w base sp held fuel cs y h
  obtain ⟨xs, m, _, rfl, hl, hlen, hel⟩ := DataW.trod_array ht h
  rw [hct] at hl
  refine ⟨hl, ?_⟩
  have each : ∀ i, i < n → ∃ x, cs[i]? = some (.int .i64 x) ∧ I64 x := fun i hi => by
    have h1 := hel i hi
    rw [hc, Nat.mul_one, List.getElem?_eq_getElem (by omega)] at h1
    obtain ⟨_, x, hx, hw⟩ := Opens.int he w base sp held m _ _ h1
    refine ⟨x, ?_, hw⟩
    have hx : (cs.drop i).take 1 = [.int .i64 x] := hx
    have h2 : ((cs.drop i).take 1)[0]? = some (.int .i64 x) := by rw [hx]; rfl
    simpa using h2
  obtain ⟨l, h1, h2⟩ := list_of n each
  refine ⟨l, ?_, h1, fun x hx => ?_⟩
  · show cs = l.map (Value.int .i64)
    apply List.ext_getElem?
    intro i
    by_cases hi : i < n
    · have e1 : l[i]? = some (l[i]'(by omega)) := List.getElem?_eq_getElem (by omega)
      rw [List.getElem?_map, e1]
      exact (h2 i _ e1).1
    · rw [List.getElem?_eq_none (by omega), List.getElem?_eq_none (by rw [List.length_map]; omega)]
  · obtain ⟨i, hi⟩ := List.mem_iff_getElem?.1 hx
    exact (h2 i x hi).2
end Go.Dec
end
section
namespace Go.Proofs.Ytcipdblhopffbaa
open Go Go.RowKit Go.Dec
set_option linter.unusedVariables false
def W_Span (x : Span) : Prop := I64 x.Low ∧ I64 x.High
set_option maxRecDepth 100000 in
theorem o_Span {T : Type} {enc : TypeId × Value → T} : Opens enc Try.prog 49 2 R_Span W_Span := by
  intro w base sp held fuel cs y h
  obtain ⟨xs, n, _, rfl, hl, hlen, hf⟩ := DataW.trod_struct Try.underlying49 h
  have hl2 : cs.length = 2 := hl.trans (by kernel_rfl)
  have hx : xs.length = 2 := hlen
  obtain ⟨c0, c1, rfl⟩ : ∃ c0 c1, cs = [c0, c1] := by
    match cs, hl2 with
    | [c0, c1], _ => exact ⟨_, _, rfl⟩
  have co3 : Try.prog.cellsOf 3 = 1 := by kernel_rfl
  have e0 : DataW.trod enc Try.prog w base sp held n 3 (([c0, c1].drop 0).take (Try.prog.cellsOf 3)) = xs[0]? := hf 0 _ rfl
  rw [co3] at e0
  obtain ⟨_, x0, r0, w0⟩ := (Opens.int (by kernel_rfl)) _ _ _ _ _ _ _ (e0.trans (List.getElem?_eq_getElem (by omega)))
  have e1 : DataW.trod enc Try.prog w base sp held n 3 (([c0, c1].drop 1).take (Try.prog.cellsOf 3)) = xs[1]? := hf 1 _ rfl
  rw [co3] at e1
  obtain ⟨_, x1, r1, w1⟩ := (Opens.int (by kernel_rfl)) _ _ _ _ _ _ _ (e1.trans (List.getElem?_eq_getElem (by omega)))
  have q0 : [c0] = [_] := r0
  cases q0
  have q1 : [c1] = [_] := r1
  cases q1
  exact ⟨rfl, ⟨x0, x1⟩, rfl, w0, w1⟩
def W_Frac (x : Frac) : Prop := I64 x.Num ∧ I64 x.Den
set_option maxRecDepth 100000 in
theorem o_Frac {T : Type} {enc : TypeId × Value → T} : Opens enc Try.prog 24 2 R_Frac W_Frac := by
  intro w base sp held fuel cs y h
  obtain ⟨xs, n, _, rfl, hl, hlen, hf⟩ := DataW.trod_struct Try.underlying24 h
  have hl2 : cs.length = 2 := hl.trans (by kernel_rfl)
  have hx : xs.length = 2 := hlen
  obtain ⟨c0, c1, rfl⟩ : ∃ c0 c1, cs = [c0, c1] := by
    match cs, hl2 with
    | [c0, c1], _ => exact ⟨_, _, rfl⟩
  have co3 : Try.prog.cellsOf 3 = 1 := by kernel_rfl
  have e0 : DataW.trod enc Try.prog w base sp held n 3 (([c0, c1].drop 0).take (Try.prog.cellsOf 3)) = xs[0]? := hf 0 _ rfl
  rw [co3] at e0
  obtain ⟨_, x0, r0, w0⟩ := (Opens.int (by kernel_rfl)) _ _ _ _ _ _ _ (e0.trans (List.getElem?_eq_getElem (by omega)))
  have e1 : DataW.trod enc Try.prog w base sp held n 3 (([c0, c1].drop 1).take (Try.prog.cellsOf 3)) = xs[1]? := hf 1 _ rfl
  rw [co3] at e1
  obtain ⟨_, x1, r1, w1⟩ := (Opens.int (by kernel_rfl)) _ _ _ _ _ _ _ (e1.trans (List.getElem?_eq_getElem (by omega)))
  have q0 : [c0] = [_] := r0
  cases q0
  have q1 : [c1] = [_] := r1
  cases q1
  exact ⟨rfl, ⟨x0, x1⟩, rfl, w0, w1⟩
def W_Section (x : Section) : Prop := W_Span x.Arm ∧ W_Span x.Stretch ∧ I64 x.Base ∧ W_Frac x.Gear
set_option maxRecDepth 100000 in
theorem o_Section {T : Type} {enc : TypeId × Value → T} : Opens enc Try.prog 129 7 R_Section W_Section := by
  intro w base sp held fuel cs y h
  obtain ⟨xs, n, _, rfl, hl, hlen, hf⟩ := DataW.trod_struct Try.underlying129 h
  have hl2 : cs.length = 7 := hl.trans (by kernel_rfl)
  have hx : xs.length = 4 := hlen
  obtain ⟨c0, c1, c2, c3, c4, c5, c6, rfl⟩ : ∃ c0 c1 c2 c3 c4 c5 c6, cs = [c0, c1, c2, c3, c4, c5, c6] := by
    match cs, hl2 with
    | [c0, c1, c2, c3, c4, c5, c6], _ => exact ⟨_, _, _, _, _, _, _, rfl⟩
  have co3 : Try.prog.cellsOf 3 = 1 := by kernel_rfl
  have co24 : Try.prog.cellsOf 24 = 2 := by kernel_rfl
  have co49 : Try.prog.cellsOf 49 = 2 := by kernel_rfl
  have e0 : DataW.trod enc Try.prog w base sp held n 49 (([c0, c1, c2, c3, c4, c5, c6].drop 0).take (Try.prog.cellsOf 49)) = xs[0]? := hf 0 _ rfl
  rw [co49] at e0
  obtain ⟨_, x0, r0, w0⟩ := o_Span _ _ _ _ _ _ _ (e0.trans (List.getElem?_eq_getElem (by omega)))
  have e1 : DataW.trod enc Try.prog w base sp held n 49 (([c0, c1, c2, c3, c4, c5, c6].drop 2).take (Try.prog.cellsOf 49)) = xs[1]? := hf 1 _ rfl
  rw [co49] at e1
  obtain ⟨_, x1, r1, w1⟩ := o_Span _ _ _ _ _ _ _ (e1.trans (List.getElem?_eq_getElem (by omega)))
  have e2 : DataW.trod enc Try.prog w base sp held n 3 (([c0, c1, c2, c3, c4, c5, c6].drop 4).take (Try.prog.cellsOf 3)) = xs[2]? := hf 2 _ rfl
  rw [co3] at e2
  obtain ⟨_, x2, r2, w2⟩ := (Opens.int (by kernel_rfl)) _ _ _ _ _ _ _ (e2.trans (List.getElem?_eq_getElem (by omega)))
  have e3 : DataW.trod enc Try.prog w base sp held n 24 (([c0, c1, c2, c3, c4, c5, c6].drop 5).take (Try.prog.cellsOf 24)) = xs[3]? := hf 3 _ rfl
  rw [co24] at e3
  obtain ⟨_, x3, r3, w3⟩ := o_Frac _ _ _ _ _ _ _ (e3.trans (List.getElem?_eq_getElem (by omega)))
  have q0 : [c0, c1] = _ := r0
  cases q0
  have q1 : [c2, c3] = _ := r1
  cases q1
  have q2 : [c4] = [_] := r2
  cases q2
  have q3 : [c5, c6] = _ := r3
  cases q3
  exact ⟨rfl, ⟨x0, x1, x2, x3⟩, rfl, w0, w1, w2, w3⟩
def W_Frame (x : Frame) : Prop := (fun (l : List Section) => (∀ x ∈ l, W_Section x) ∧ l.length ≤ 9223372036854775807) x.Sections ∧ I64 x.Low ∧ I64 x.High ∧ W_Frac x.Ease ∧ I64 x.Rod ∧ I64 x.Case
set_option maxRecDepth 100000 in
theorem o_Frame {T : Type} {enc : TypeId × Value → T} : Opens enc Try.prog 26 7 R_Frame W_Frame := by
  intro w base sp held fuel cs y h
  obtain ⟨xs, n, _, rfl, hl, hlen, hf⟩ := DataW.trod_struct Try.underlying26 h
  have hl2 : cs.length = 7 := hl.trans (by kernel_rfl)
  have hx : xs.length = 6 := hlen
  obtain ⟨c0, c1, c2, c3, c4, c5, c6, rfl⟩ : ∃ c0 c1 c2 c3 c4 c5 c6, cs = [c0, c1, c2, c3, c4, c5, c6] := by
    match cs, hl2 with
    | [c0, c1, c2, c3, c4, c5, c6], _ => exact ⟨_, _, _, _, _, _, _, rfl⟩
  have co3 : Try.prog.cellsOf 3 = 1 := by kernel_rfl
  have co22 : Try.prog.cellsOf 22 = 1 := by kernel_rfl
  have co24 : Try.prog.cellsOf 24 = 2 := by kernel_rfl
  have e0 : DataW.trod enc Try.prog w base sp held n 22 (([c0, c1, c2, c3, c4, c5, c6].drop 0).take (Try.prog.cellsOf 22)) = xs[0]? := hf 0 _ rfl
  rw [co22] at e0
  obtain ⟨_, x0, r0, w0⟩ := (Opens.slice (e := 129) (sz := 7) (by kernel_rfl) (by kernel_rfl) rfl o_Section) _ _ _ _ _ _ _ (e0.trans (List.getElem?_eq_getElem (by omega)))
  have e1 : DataW.trod enc Try.prog w base sp held n 3 (([c0, c1, c2, c3, c4, c5, c6].drop 1).take (Try.prog.cellsOf 3)) = xs[1]? := hf 1 _ rfl
  rw [co3] at e1
  obtain ⟨_, x1, r1, w1⟩ := (Opens.int (by kernel_rfl)) _ _ _ _ _ _ _ (e1.trans (List.getElem?_eq_getElem (by omega)))
  have e2 : DataW.trod enc Try.prog w base sp held n 3 (([c0, c1, c2, c3, c4, c5, c6].drop 2).take (Try.prog.cellsOf 3)) = xs[2]? := hf 2 _ rfl
  rw [co3] at e2
  obtain ⟨_, x2, r2, w2⟩ := (Opens.int (by kernel_rfl)) _ _ _ _ _ _ _ (e2.trans (List.getElem?_eq_getElem (by omega)))
  have e3 : DataW.trod enc Try.prog w base sp held n 24 (([c0, c1, c2, c3, c4, c5, c6].drop 3).take (Try.prog.cellsOf 24)) = xs[3]? := hf 3 _ rfl
  rw [co24] at e3
  obtain ⟨_, x3, r3, w3⟩ := o_Frac _ _ _ _ _ _ _ (e3.trans (List.getElem?_eq_getElem (by omega)))
  have e4 : DataW.trod enc Try.prog w base sp held n 3 (([c0, c1, c2, c3, c4, c5, c6].drop 5).take (Try.prog.cellsOf 3)) = xs[4]? := hf 4 _ rfl
  rw [co3] at e4
  obtain ⟨_, x4, r4, w4⟩ := (Opens.int (by kernel_rfl)) _ _ _ _ _ _ _ (e4.trans (List.getElem?_eq_getElem (by omega)))
  have e5 : DataW.trod enc Try.prog w base sp held n 3 (([c0, c1, c2, c3, c4, c5, c6].drop 6).take (Try.prog.cellsOf 3)) = xs[5]? := hf 5 _ rfl
  rw [co3] at e5
  obtain ⟨_, x5, r5, w5⟩ := (Opens.int (by kernel_rfl)) _ _ _ _ _ _ _ (e5.trans (List.getElem?_eq_getElem (by omega)))
  obtain ⟨v0, q0, s0⟩ := r0
  have q0 : [c0] = [v0] := q0
  cases q0
  have q1 : [c1] = [_] := r1
  cases q1
  have q2 : [c2] = [_] := r2
  cases q2
  have q3 : [c3, c4] = _ := r3
  cases q3
  have q4 : [c5] = [_] := r4
  cases q4
  have q5 : [c6] = [_] := r5
  cases q5
  exact ⟨rfl, ⟨x0, x1, x2, x3, x4, x5⟩, ⟨c0, rfl, s0⟩, w0, w1, w2, w3, w4, w5⟩
def W_Canopy (x : Canopy) : Prop := W_Frame x.Frame ∧ (fun (l : List Span) => (∀ x ∈ l, W_Span x) ∧ l.length ≤ 9223372036854775807) x.Ribs ∧ (fun (l : List Int) => (∀ x ∈ l, I64 x) ∧ l.length ≤ 9223372036854775807) x.Shares
set_option maxRecDepth 100000 in
theorem o_Canopy {T : Type} {enc : TypeId × Value → T} : Opens enc Try.prog 30 9 R_Canopy W_Canopy := by
  intro w base sp held fuel cs y h
  obtain ⟨xs, n, _, rfl, hl, hlen, hf⟩ := DataW.trod_struct Try.underlying30 h
  have hl2 : cs.length = 9 := hl.trans (by kernel_rfl)
  have hx : xs.length = 3 := hlen
  obtain ⟨c0, c1, c2, c3, c4, c5, c6, c7, c8, rfl⟩ : ∃ c0 c1 c2 c3 c4 c5 c6 c7 c8, cs = [c0, c1, c2, c3, c4, c5, c6, c7, c8] := by
    match cs, hl2 with
    | [c0, c1, c2, c3, c4, c5, c6, c7, c8], _ => exact ⟨_, _, _, _, _, _, _, _, _, rfl⟩
  have co26 : Try.prog.cellsOf 26 = 7 := by kernel_rfl
  have co27 : Try.prog.cellsOf 27 = 1 := by kernel_rfl
  have co28 : Try.prog.cellsOf 28 = 1 := by kernel_rfl
  have e0 : DataW.trod enc Try.prog w base sp held n 26 (([c0, c1, c2, c3, c4, c5, c6, c7, c8].drop 0).take (Try.prog.cellsOf 26)) = xs[0]? := hf 0 _ rfl
  rw [co26] at e0
  obtain ⟨_, x0, r0, w0⟩ := o_Frame _ _ _ _ _ _ _ (e0.trans (List.getElem?_eq_getElem (by omega)))
  have e1 : DataW.trod enc Try.prog w base sp held n 27 (([c0, c1, c2, c3, c4, c5, c6, c7, c8].drop 7).take (Try.prog.cellsOf 27)) = xs[1]? := hf 1 _ rfl
  rw [co27] at e1
  obtain ⟨_, x1, r1, w1⟩ := (Opens.slice (e := 49) (sz := 2) (by kernel_rfl) (by kernel_rfl) rfl o_Span) _ _ _ _ _ _ _ (e1.trans (List.getElem?_eq_getElem (by omega)))
  have e2 : DataW.trod enc Try.prog w base sp held n 28 (([c0, c1, c2, c3, c4, c5, c6, c7, c8].drop 8).take (Try.prog.cellsOf 28)) = xs[2]? := hf 2 _ rfl
  rw [co28] at e2
  obtain ⟨_, x2, r2, w2⟩ := (Opens.slice (e := 3) (sz := 1) (by kernel_rfl) (by kernel_rfl) rfl (Opens.int (by kernel_rfl))) _ _ _ _ _ _ _ (e2.trans (List.getElem?_eq_getElem (by omega)))
  obtain ⟨v0_0, q0, s0_0⟩ := r0
  cases q0
  obtain ⟨v1, q1, s1⟩ := r1
  have q1 : [c7] = [v1] := q1
  cases q1
  obtain ⟨v2, q2, s2⟩ := r2
  have q2 : [c8] = [v2] := q2
  cases q2
  exact ⟨rfl, ⟨x0, x1, x2⟩, ⟨c0, c7, c8, rfl, s0_0, s1, s2⟩, w0, w1, w2⟩
def W_Blow (x : Blow) : Prop := I64 x.At ∧ W_Span x.Force
set_option maxRecDepth 100000 in
theorem o_Blow {T : Type} {enc : TypeId × Value → T} : Opens enc Try.prog 56 3 R_Blow W_Blow := by
  intro w base sp held fuel cs y h
  obtain ⟨xs, n, _, rfl, hl, hlen, hf⟩ := DataW.trod_struct Try.underlying56 h
  have hl2 : cs.length = 3 := hl.trans (by kernel_rfl)
  have hx : xs.length = 2 := hlen
  obtain ⟨c0, c1, c2, rfl⟩ : ∃ c0 c1 c2, cs = [c0, c1, c2] := by
    match cs, hl2 with
    | [c0, c1, c2], _ => exact ⟨_, _, _, rfl⟩
  have co3 : Try.prog.cellsOf 3 = 1 := by kernel_rfl
  have co49 : Try.prog.cellsOf 49 = 2 := by kernel_rfl
  have e0 : DataW.trod enc Try.prog w base sp held n 3 (([c0, c1, c2].drop 0).take (Try.prog.cellsOf 3)) = xs[0]? := hf 0 _ rfl
  rw [co3] at e0
  obtain ⟨_, x0, r0, w0⟩ := (Opens.int (by kernel_rfl)) _ _ _ _ _ _ _ (e0.trans (List.getElem?_eq_getElem (by omega)))
  have e1 : DataW.trod enc Try.prog w base sp held n 49 (([c0, c1, c2].drop 1).take (Try.prog.cellsOf 49)) = xs[1]? := hf 1 _ rfl
  rw [co49] at e1
  obtain ⟨_, x1, r1, w1⟩ := o_Span _ _ _ _ _ _ _ (e1.trans (List.getElem?_eq_getElem (by omega)))
  have q0 : [c0] = [_] := r0
  cases q0
  have q1 : [c1, c2] = _ := r1
  cases q1
  exact ⟨rfl, ⟨x0, x1⟩, rfl, w0, w1⟩
def W_Meter (x : Meter) : Prop := I64 x.Limit ∧ I64 x.Count
set_option maxRecDepth 100000 in
theorem o_Meter {T : Type} {enc : TypeId × Value → T} : Opens enc Try.prog 36 2 R_Meter W_Meter := by
  intro w base sp held fuel cs y h
  obtain ⟨xs, n, _, rfl, hl, hlen, hf⟩ := DataW.trod_struct Try.underlying36 h
  have hl2 : cs.length = 2 := hl.trans (by kernel_rfl)
  have hx : xs.length = 2 := hlen
  obtain ⟨c0, c1, rfl⟩ : ∃ c0 c1, cs = [c0, c1] := by
    match cs, hl2 with
    | [c0, c1], _ => exact ⟨_, _, rfl⟩
  have co3 : Try.prog.cellsOf 3 = 1 := by kernel_rfl
  have e0 : DataW.trod enc Try.prog w base sp held n 3 (([c0, c1].drop 0).take (Try.prog.cellsOf 3)) = xs[0]? := hf 0 _ rfl
  rw [co3] at e0
  obtain ⟨_, x0, r0, w0⟩ := (Opens.int (by kernel_rfl)) _ _ _ _ _ _ _ (e0.trans (List.getElem?_eq_getElem (by omega)))
  have e1 : DataW.trod enc Try.prog w base sp held n 3 (([c0, c1].drop 1).take (Try.prog.cellsOf 3)) = xs[1]? := hf 1 _ rfl
  rw [co3] at e1
  obtain ⟨_, x1, r1, w1⟩ := (Opens.int (by kernel_rfl)) _ _ _ _ _ _ _ (e1.trans (List.getElem?_eq_getElem (by omega)))
  have q0 : [c0] = [_] := r0
  cases q0
  have q1 : [c1] = [_] := r1
  cases q1
  exact ⟨rfl, ⟨x0, x1⟩, rfl, w0, w1⟩
def W_Run (x : Run) : Prop := W_Canopy x.Canopy ∧ (fun (l : List Blow) => (∀ x ∈ l, W_Blow x) ∧ l.length ≤ 9223372036854775807) x.Blows ∧ (fun (l : List Meter) => (∀ x ∈ l, W_Meter x) ∧ l.length ≤ 9223372036854775807) x.Meters ∧ I64 x.Wrong
set_option maxRecDepth 100000 in
theorem o_Run {T : Type} {enc : TypeId × Value → T} : Opens enc Try.prog 34 12 R_Run W_Run := by
  intro w base sp held fuel cs y h
  obtain ⟨xs, n, _, rfl, hl, hlen, hf⟩ := DataW.trod_struct Try.underlying34 h
  have hl2 : cs.length = 12 := hl.trans (by kernel_rfl)
  have hx : xs.length = 4 := hlen
  obtain ⟨c0, c1, c2, c3, c4, c5, c6, c7, c8, c9, c10, c11, rfl⟩ : ∃ c0 c1 c2 c3 c4 c5 c6 c7 c8 c9 c10 c11, cs = [c0, c1, c2, c3, c4, c5, c6, c7, c8, c9, c10, c11] := by
    match cs, hl2 with
    | [c0, c1, c2, c3, c4, c5, c6, c7, c8, c9, c10, c11], _ => exact ⟨_, _, _, _, _, _, _, _, _, _, _, _, rfl⟩
  have co3 : Try.prog.cellsOf 3 = 1 := by kernel_rfl
  have co30 : Try.prog.cellsOf 30 = 9 := by kernel_rfl
  have co31 : Try.prog.cellsOf 31 = 1 := by kernel_rfl
  have co32 : Try.prog.cellsOf 32 = 1 := by kernel_rfl
  have e0 : DataW.trod enc Try.prog w base sp held n 30 (([c0, c1, c2, c3, c4, c5, c6, c7, c8, c9, c10, c11].drop 0).take (Try.prog.cellsOf 30)) = xs[0]? := hf 0 _ rfl
  rw [co30] at e0
  obtain ⟨_, x0, r0, w0⟩ := o_Canopy _ _ _ _ _ _ _ (e0.trans (List.getElem?_eq_getElem (by omega)))
  have e1 : DataW.trod enc Try.prog w base sp held n 31 (([c0, c1, c2, c3, c4, c5, c6, c7, c8, c9, c10, c11].drop 9).take (Try.prog.cellsOf 31)) = xs[1]? := hf 1 _ rfl
  rw [co31] at e1
  obtain ⟨_, x1, r1, w1⟩ := (Opens.slice (e := 56) (sz := 3) (by kernel_rfl) (by kernel_rfl) rfl o_Blow) _ _ _ _ _ _ _ (e1.trans (List.getElem?_eq_getElem (by omega)))
  have e2 : DataW.trod enc Try.prog w base sp held n 32 (([c0, c1, c2, c3, c4, c5, c6, c7, c8, c9, c10, c11].drop 10).take (Try.prog.cellsOf 32)) = xs[2]? := hf 2 _ rfl
  rw [co32] at e2
  obtain ⟨_, x2, r2, w2⟩ := (Opens.slice (e := 36) (sz := 2) (by kernel_rfl) (by kernel_rfl) rfl o_Meter) _ _ _ _ _ _ _ (e2.trans (List.getElem?_eq_getElem (by omega)))
  have e3 : DataW.trod enc Try.prog w base sp held n 3 (([c0, c1, c2, c3, c4, c5, c6, c7, c8, c9, c10, c11].drop 11).take (Try.prog.cellsOf 3)) = xs[3]? := hf 3 _ rfl
  rw [co3] at e3
  obtain ⟨_, x3, r3, w3⟩ := (Opens.int (by kernel_rfl)) _ _ _ _ _ _ _ (e3.trans (List.getElem?_eq_getElem (by omega)))
  obtain ⟨v0_0, v0_7, v0_8, q0, s0_0, s0_7, s0_8⟩ := r0
  cases q0
  obtain ⟨v1, q1, s1⟩ := r1
  have q1 : [c9] = [v1] := q1
  cases q1
  obtain ⟨v2, q2, s2⟩ := r2
  have q2 : [c10] = [v2] := q2
  cases q2
  have q3 : [c11] = [_] := r3
  cases q3
  exact ⟨rfl, ⟨x0, x1, x2, x3⟩, ⟨c0, c7, c8, c9, c10, rfl, s0_0, s0_7, s0_8, s1, s2⟩, w0, w1, w2, w3⟩
def W_law13_Stronger (x : law13_Stronger) : Prop := I64 x.Rib ∧ I64 x.By ∧ I64 x.Blow
set_option maxRecDepth 100000 in
theorem o_law13_Stronger {T : Type} {enc : TypeId × Value → T} : Opens enc Try.prog 43 3 R_law13_Stronger W_law13_Stronger := by
  intro w base sp held fuel cs y h
  obtain ⟨xs, n, _, rfl, hl, hlen, hf⟩ := DataW.trod_struct Try.underlying43 h
  have hl2 : cs.length = 3 := hl.trans (by kernel_rfl)
  have hx : xs.length = 3 := hlen
  obtain ⟨c0, c1, c2, rfl⟩ : ∃ c0 c1 c2, cs = [c0, c1, c2] := by
    match cs, hl2 with
    | [c0, c1, c2], _ => exact ⟨_, _, _, rfl⟩
  have co3 : Try.prog.cellsOf 3 = 1 := by kernel_rfl
  have e0 : DataW.trod enc Try.prog w base sp held n 3 (([c0, c1, c2].drop 0).take (Try.prog.cellsOf 3)) = xs[0]? := hf 0 _ rfl
  rw [co3] at e0
  obtain ⟨_, x0, r0, w0⟩ := (Opens.int (by kernel_rfl)) _ _ _ _ _ _ _ (e0.trans (List.getElem?_eq_getElem (by omega)))
  have e1 : DataW.trod enc Try.prog w base sp held n 3 (([c0, c1, c2].drop 1).take (Try.prog.cellsOf 3)) = xs[1]? := hf 1 _ rfl
  rw [co3] at e1
  obtain ⟨_, x1, r1, w1⟩ := (Opens.int (by kernel_rfl)) _ _ _ _ _ _ _ (e1.trans (List.getElem?_eq_getElem (by omega)))
  have e2 : DataW.trod enc Try.prog w base sp held n 3 (([c0, c1, c2].drop 2).take (Try.prog.cellsOf 3)) = xs[2]? := hf 2 _ rfl
  rw [co3] at e2
  obtain ⟨_, x2, r2, w2⟩ := (Opens.int (by kernel_rfl)) _ _ _ _ _ _ _ (e2.trans (List.getElem?_eq_getElem (by omega)))
  have q0 : [c0] = [_] := r0
  cases q0
  have q1 : [c1] = [_] := r1
  cases q1
  have q2 : [c2] = [_] := r2
  cases q2
  exact ⟨rfl, ⟨x0, x1, x2⟩, rfl, w0, w1, w2⟩
def W_law13_Ask (x : law13_Ask) : Prop := I64 x.Blow ∧ I64 x.Meter ∧ I64 x.Limit
set_option maxRecDepth 100000 in
theorem o_law13_Ask {T : Type} {enc : TypeId × Value → T} : Opens enc Try.prog 67 3 R_law13_Ask W_law13_Ask := by
  intro w base sp held fuel cs y h
  obtain ⟨xs, n, _, rfl, hl, hlen, hf⟩ := DataW.trod_struct Try.underlying67 h
  have hl2 : cs.length = 3 := hl.trans (by kernel_rfl)
  have hx : xs.length = 3 := hlen
  obtain ⟨c0, c1, c2, rfl⟩ : ∃ c0 c1 c2, cs = [c0, c1, c2] := by
    match cs, hl2 with
    | [c0, c1, c2], _ => exact ⟨_, _, _, rfl⟩
  have co3 : Try.prog.cellsOf 3 = 1 := by kernel_rfl
  have e0 : DataW.trod enc Try.prog w base sp held n 3 (([c0, c1, c2].drop 0).take (Try.prog.cellsOf 3)) = xs[0]? := hf 0 _ rfl
  rw [co3] at e0
  obtain ⟨_, x0, r0, w0⟩ := (Opens.int (by kernel_rfl)) _ _ _ _ _ _ _ (e0.trans (List.getElem?_eq_getElem (by omega)))
  have e1 : DataW.trod enc Try.prog w base sp held n 3 (([c0, c1, c2].drop 1).take (Try.prog.cellsOf 3)) = xs[1]? := hf 1 _ rfl
  rw [co3] at e1
  obtain ⟨_, x1, r1, w1⟩ := (Opens.int (by kernel_rfl)) _ _ _ _ _ _ _ (e1.trans (List.getElem?_eq_getElem (by omega)))
  have e2 : DataW.trod enc Try.prog w base sp held n 3 (([c0, c1, c2].drop 2).take (Try.prog.cellsOf 3)) = xs[2]? := hf 2 _ rfl
  rw [co3] at e2
  obtain ⟨_, x2, r2, w2⟩ := (Opens.int (by kernel_rfl)) _ _ _ _ _ _ _ (e2.trans (List.getElem?_eq_getElem (by omega)))
  have q0 : [c0] = [_] := r0
  cases q0
  have q1 : [c1] = [_] := r1
  cases q1
  have q2 : [c2] = [_] := r2
  cases q2
  exact ⟨rfl, ⟨x0, x1, x2⟩, rfl, w0, w1, w2⟩
end Go.Proofs.Ytcipdblhopffbaa
end
