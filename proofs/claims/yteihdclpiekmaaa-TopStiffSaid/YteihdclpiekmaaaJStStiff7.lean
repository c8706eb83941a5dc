/-
  A part of the proof of StStiff: the texts StPsa, StPsb, StGTopStiff, StPsc.
-/
import Derived.Test.YteihdclpiekmaaaJStStiff6
section
namespace Go.Proofs.Yteihdclpiekmaaa
open Go Go.RowKit Go.Dec
theorem lt_nat (i k : Nat) : decide ((i : Int) < (k : Int)) = decide (i < k) := by simp
theorem nz_of {x : Int} (h : x ≠ 0) : nz x = some () := by unfold nz; rw [if_neg h]
theorem foldl_map1 {α β : Type} (g : α → β) : ∀ (l : List α) (s : List β), l.foldl (fun s x => s ++ [g x]) s = s ++ l.map g
  | [], s => by simp
  | a :: l, s => by rw [List.foldl_cons, foldl_map1 g l]; simp
theorem foldl_app {α β : Type} (g : α → List β) : ∀ (l : List α) (s : List β), l.foldl (fun s x => s ++ g x) s = s ++ l.flatMap g
  | [], s => by simp
  | a :: l, s => by rw [List.foldl_cons, foldl_app g l, List.flatMap_cons, List.append_assoc]
theorem foldl_cnt {α : Type} (p : α → Bool) : ∀ (l : List α) (s : Nat), l.foldl (fun s x => if p x = true then s + 1 else s) s = s + l.countP p
  | [], s => by simp
  | a :: l, s => by
    rw [List.foldl_cons, foldl_cnt p l, List.countP_cons]
    cases p a <;> simp <;> omega
theorem foldl_filter' {α : Type} (p : α → Bool) : ∀ (l s : List α), l.foldl (fun s x => if p x = true then s ++ [x] else s) s = s ++ l.filter p
  | [], s => by simp
  | a :: l, s => by
    rw [List.foldl_cons, foldl_filter' p l, List.filter_cons]
    cases p a <;> simp
/-- a loop over a span -/
theorem loop_span {σ ρ : Type} {step : Int × σ → Option ((Int × σ) ⊕ ρ)} {hi : Int} (g : σ → Int → σ) (fin : σ → ρ) (I : Int → σ → Prop) : ∀ (k : Nat) (lo : Int) (s : σ) (n : Nat), (hi + 1 - lo).toNat = k → I lo s →
    (∀ b s, lo ≤ b → b ≤ hi → I b s → step (b, s) = some (.inl (b + 1, g s b)) ∧ I (b + 1) (g s b)) → (∀ b s, hi < b → step (b, s) = some (.inr (fin s))) → k < n →
    loopO n step (lo, s) = some (fin ((span lo hi).foldl g s)) := by
  intro k
  induction k with
  | zero =>
    intro lo s n hk _ _ hd hn
    rw [span_nil (by omega)]
    exact loop_done (hd lo s (by omega)) hn
  | succ k ih =>
    intro lo s n hk hI h hd hn
    obtain ⟨m, rfl⟩ : ∃ k, n = k + 1 := ⟨n - 1, by omega⟩
    obtain ⟨h1, h2⟩ := h lo s (Int.le_refl _) (by omega) hI
    rw [loopO_succ, h1, span_cons (by omega), List.foldl_cons]
    exact ih (lo + 1) _ m (by omega) h2 (fun b s hb => h b s (by omega)) hd (by omega)
def wiB (x a b : Int) : Bool := decide (a ≤ x) && decide (x ≤ b)
theorem wiB_t {x a b : Int} : wiB x a b = true ↔ a ≤ x ∧ x ≤ b := by simp [wiB]
def spanB (s : Span) (m : Int) : Bool := (decide (0 ≤ s.Low) && decide (s.Low ≤ s.High)) && decide (s.High ≤ m)
theorem spanB_t {s : Span} {m : Int} : spanB s m = true ↔ (0 ≤ s.Low ∧ s.Low ≤ s.High) ∧ s.High ≤ m := by simp [spanB]
def stripB (s : Strip) : Bool := wiB s.Long 1 2000 && spanB s.Pulled 4000
structure VB (b : Bolt) : Prop where
  s : (0 ≤ b.Stretch.Low ∧ b.Stretch.Low ≤ b.Stretch.High) ∧ b.Stretch.High ≤ 60
  n : b.Strips.length ≤ 8
  st : ∀ s ∈ b.Strips, (1 ≤ s.Long ∧ s.Long ≤ 2000) ∧ (0 ≤ s.Pulled.Low ∧ s.Pulled.Low ≤ s.Pulled.High) ∧ s.Pulled.High ≤ 4000
  w : 0 ≤ b.Wrong ∧ b.Wrong ≤ 2
structure VD (d : Dome) : Prop where
  nb : 1 ≤ d.Bolts.length ∧ d.Bolts.length ≤ 4
  ng : 3 ≤ d.Gores.length ∧ d.Gores.length ≤ 16
  l : 0 ≤ d.Loss ∧ d.Loss ≤ 20
  nr : 1 ≤ d.Rounds.length ∧ d.Rounds.length ≤ 12
  nw : d.Widths.length = d.Rounds.length
  sl : 0 ≤ d.Slope ∧ d.Slope ≤ 500
  g : ∀ x ∈ d.Gores, 0 ≤ x ∧ x < d.Bolts.length
  r : ∀ s ∈ d.Rounds, (0 ≤ s.Low ∧ s.Low ≤ s.High) ∧ s.High ≤ 40000
  w : ∀ x ∈ d.Widths, 2 * d.Loss ≤ x ∧ x ≤ 2000
  b : ∀ b ∈ d.Bolts, VB b
structure VF (f : Figure) : Prop where
  d : VD f.Dome
  p : 1 ≤ f.Period ∧ f.Period ≤ 60
  r : 0 ≤ f.Run ∧ f.Run ≤ 2000
  n : 0 ≤ f.Near ∧ f.Near ≤ f.Period / 2
  s : f.Starts.length = f.Dome.Gores.length
  t : f.Times.length = f.Dome.Gores.length
  ss : ∀ x ∈ f.Starts, 0 ≤ x ∧ x ≤ f.Period - 1
  tt : ∀ x ∈ f.Times, 1 ≤ x ∧ x ≤ 99
def pullS (long by_ : Int) : Int := (long * (1000 + by_)).tdiv 1000
theorem pull_in {long by_ : Int} (h1 : 0 ≤ long) (h2 : long ≤ 2000) (h3 : 0 ≤ by_) (h4 : by_ ≤ 60) : (0 ≤ long * (1000 + by_) ∧ long * (1000 + by_) ≤ 2120000) ∧ 0 ≤ pullS long by_ ∧ pullS long by_ ≤ 2120 := by
  have a1 : 0 ≤ long * (1000 + by_) := Int.mul_nonneg h1 (by omega)
  have a2 : long * (1000 + by_) ≤ 2000 * 1060 := Int.mul_le_mul h2 (by omega) (by omega) (by omega)
  refine ⟨⟨a1, by omega⟩, ?_⟩
  unfold pullS
  rw [Int.tdiv_eq_ediv_of_nonneg a1]
  omega
/-- how many strips are not true of a number -/
def falseN (b : Bolt) (s : Int) : Nat := b.Strips.countP fun x => !wiB (pullS x.Long s) x.Pulled.Low x.Pulled.High
def canP (b : Bolt) (s : Int) : Bool := decide ((falseN b s : Int) ≤ b.Wrong)
def numL (b : Bolt) : List Int := (span b.Stretch.Low b.Stretch.High).filter (canP b)
theorem num_mem {b : Bolt} {x : Int} (h : x ∈ numL b) : b.Stretch.Low ≤ x ∧ x ≤ b.Stretch.High := span_mem'.1 (List.mem_filter.1 h).1
theorem num_len {b : Bolt} (h : VB b) : (numL b).length ≤ 61 := by
  have := h.s
  refine Nat.le_trans (List.length_filter_le _ _) ?_
  rw [span_len]; omega
section
variable {n : Nat} (hn : 100000000 ≤ n)
include hn
theorem p_isBolt02 {b : Bolt} (h : b.Strips.length ≤ 60) : ∃ r, F_ref02_isBolt n b = some r ∧ (r = true → VB b) := by
  have hl := loop_all_l (step := F_ref02_isBolt_s1 n b) b.Strips stripB false (n := n) (by omega) (fun i x hx hi => by
    simp only [F_ref02_isBolt_s1, lt_nat, hi, decide_true, if_true, geti_nat, hx, Option.bind_some, F_ref02_within, F_ref02_isSpan, w64_nat (show i ≤ 4611686018427387904 by omega)]
    show (if (!wiB x.Long 1 2000) = true then some true else some (!spanB x.Pulled 4000)).bind _ = _
    unfold stripB
    cases wiB x.Long 1 2000 <;> cases spanB x.Pulled 4000 <;> rfl) (by simp [F_ref02_isBolt_s1]) (by omega)
  simp only [F_ref02_isBolt, F_ref02_isSpan, F_ref02_within, Option.bind_some, hl]
  show ∃ r, (if ((!spanB b.Stretch 60) || decide (8 < (b.Strips.length : Int))) = true then some true else some (!wiB b.Wrong 0 2)).bind _ = some r ∧ _
  by_cases h1 : ((!spanB b.Stretch 60) || decide (8 < (b.Strips.length : Int))) = true
  · rw [if_pos h1]; exact ⟨false, rfl, fun h => by cases h⟩
  · rw [if_neg h1]
    simp only [Bool.or_eq_true, Bool.not_eq_true', decide_eq_true_eq, not_or, Bool.not_eq_false] at h1
    cases h2 : wiB b.Wrong 0 2
    · exact ⟨false, rfl, fun h => by cases h⟩
    · cases h3 : b.Strips.all stripB
      · exact ⟨false, rfl, fun h => by cases h⟩
      · refine ⟨true, rfl, fun _ => ⟨spanB_t.1 h1.1, by omega, fun s hs => ?_, wiB_t.1 h2⟩⟩
        have := List.all_eq_true.1 h3 s hs
        unfold stripB at this
        rw [Bool.and_eq_true] at this
        exact ⟨wiB_t.1 this.1, spanB_t.1 this.2⟩
theorem p_Check02 {d : Dome} (h1 : d.Bolts.length ≤ 60) (h2 : d.Gores.length ≤ 60) (h3 : d.Rounds.length ≤ 60) (h5 : ∀ b ∈ d.Bolts, b.Strips.length ≤ 60) : ∃ e, F_ref02_Check n d = some e ∧ (e = 0 → VD d) := by
  simp only [F_ref02_Check, F_ref02_within, Option.bind_some]
  by_cases a1 : wiB (d.Bolts.length : Int) 1 4 = true
  rotate_left
  · have : ((decide ((1 : Int) ≤ (d.Bolts.length : Int))) && (decide ((d.Bolts.length : Int) ≤ 4))) = false := by simpa [wiB] using a1
    simp only [this, Bool.not_false, if_true, Option.bind_some, Bool.true_or]
    exact ⟨20, rfl, fun h => by cases h⟩
  by_cases a2 : wiB (d.Gores.length : Int) 3 16 = true
  rotate_left
  · have e1 : ((decide ((1 : Int) ≤ (d.Bolts.length : Int))) && (decide ((d.Bolts.length : Int) ≤ 4))) = true := a1
    have : ((decide ((3 : Int) ≤ (d.Gores.length : Int))) && (decide ((d.Gores.length : Int) ≤ 16))) = false := by simpa [wiB] using a2
    simp only [e1, this, Bool.not_true, Bool.not_false, Bool.false_eq_true, if_false, if_true, Option.bind_some, Bool.true_or]
    exact ⟨20, rfl, fun h => by cases h⟩
  by_cases a3 : wiB d.Loss 0 20 = true
  rotate_left
  · have e1 : ((decide ((1 : Int) ≤ (d.Bolts.length : Int))) && (decide ((d.Bolts.length : Int) ≤ 4))) = true := a1
    have e2 : ((decide ((3 : Int) ≤ (d.Gores.length : Int))) && (decide ((d.Gores.length : Int) ≤ 16))) = true := a2
    have : ((decide ((0 : Int) ≤ d.Loss)) && (decide (d.Loss ≤ 20))) = false := by simpa [wiB] using a3
    simp only [e1, e2, this, Bool.not_true, Bool.not_false, Bool.false_eq_true, if_false, if_true, Option.bind_some, Bool.true_or]
    exact ⟨20, rfl, fun h => by cases h⟩
  by_cases a4 : wiB (d.Rounds.length : Int) 1 12 = true
  rotate_left
  · have e1 : ((decide ((1 : Int) ≤ (d.Bolts.length : Int))) && (decide ((d.Bolts.length : Int) ≤ 4))) = true := a1
    have e2 : ((decide ((3 : Int) ≤ (d.Gores.length : Int))) && (decide ((d.Gores.length : Int) ≤ 16))) = true := a2
    have e3 : ((decide ((0 : Int) ≤ d.Loss)) && (decide (d.Loss ≤ 20))) = true := a3
    have : ((decide ((1 : Int) ≤ (d.Rounds.length : Int))) && (decide ((d.Rounds.length : Int) ≤ 12))) = false := by simpa [wiB] using a4
    simp only [e1, e2, e3, this, Bool.not_true, Bool.not_false, Bool.false_eq_true, if_false, if_true, Option.bind_some, Bool.true_or]
    exact ⟨20, rfl, fun h => by cases h⟩
  have e1 : ((decide ((1 : Int) ≤ (d.Bolts.length : Int))) && (decide ((d.Bolts.length : Int) ≤ 4))) = true := a1
  have e2 : ((decide ((3 : Int) ≤ (d.Gores.length : Int))) && (decide ((d.Gores.length : Int) ≤ 16))) = true := a2
  have e3 : ((decide ((0 : Int) ≤ d.Loss)) && (decide (d.Loss ≤ 20))) = true := a3
  have e4 : ((decide ((1 : Int) ≤ (d.Rounds.length : Int))) && (decide ((d.Rounds.length : Int) ≤ 12))) = true := a4
  simp only [e1, e2, e3, e4, Bool.not_true, Bool.false_eq_true, if_false, Option.bind_some, Bool.false_or]
  by_cases a5 : (d.Widths.length : Int) = (d.Rounds.length : Int)
  rotate_left
  · have : ((d.Widths.length : Int) != (d.Rounds.length : Int)) = true := by simpa using a5
    simp only [this, if_true, Option.bind_some]
    exact ⟨20, rfl, fun h => by cases h⟩
  have e5 : ((d.Widths.length : Int) != (d.Rounds.length : Int)) = false := by simpa using a5
  simp only [e5, Bool.false_eq_true, if_false, Option.bind_some]
  by_cases a6 : wiB d.Slope 0 500 = true
  rotate_left
  · have : ((decide ((0 : Int) ≤ d.Slope)) && (decide (d.Slope ≤ 500))) = false := by simpa [wiB] using a6
    simp only [this, Bool.not_false, if_true]
    exact ⟨20, rfl, fun h => by cases h⟩
  have e6 : ((decide ((0 : Int) ≤ d.Slope)) && (decide (d.Slope ≤ 500))) = true := a6
  simp only [e6, Bool.not_true, Bool.false_eq_true, if_false]
  have b1 := wiB_t.1 a1; have b2 := wiB_t.1 a2; have b3 := wiB_t.1 a3; have b4 := wiB_t.1 a4; have b6 := wiB_t.1 a6
  have l1 := loop_all_l (step := F_ref02_Check_s1 n d) d.Gores (fun x => wiB x 0 ((d.Bolts.length : Int) - 1)) (20 : Int) (n := n) (by omega) (fun i x hx hi => by
    simp only [F_ref02_Check_s1, lt_nat, hi, decide_true, if_true, geti_nat, hx, Option.bind_some, F_ref02_within, w64_id (show -9223372036854775808 ≤ (d.Bolts.length : Int) - 1 by omega) (show (d.Bolts.length : Int) - 1 ≤ 9223372036854775807 by omega), w64_nat (show i ≤ 4611686018427387904 by omega)]
    show (if (!wiB x 0 ((d.Bolts.length : Int) - 1)) = true then _ else _) = _
    cases wiB x 0 ((d.Bolts.length : Int) - 1) <;> rfl) (by simp [F_ref02_Check_s1]) (by omega)
  have l2 := loop_all (step := F_ref02_Check_s2 n d) d.Rounds.length (fun i => spanB ((d.Rounds[i]?).getD ⟨0, 0⟩) 40000 && wiB ((d.Widths[i]?).getD 0) (2 * d.Loss) 2000) (20 : Int) (n := n) (by omega) (fun i hi => by
    have hr : d.Rounds[i]? = some d.Rounds[i] := List.getElem?_eq_getElem hi
    have hw : d.Widths[i]? = some (d.Widths[i]'(by omega)) := List.getElem?_eq_getElem (by omega)
    simp only [F_ref02_Check_s2, lt_nat, hi, decide_true, if_true, geti_nat, hr, hw, Option.bind_some, F_ref02_within, F_ref02_isSpan, Option.getD_some, w64_id (show -9223372036854775808 ≤ 2 * d.Loss by omega) (show 2 * d.Loss ≤ 9223372036854775807 by omega), w64_nat (show i ≤ 4611686018427387904 by omega)]
    show (if (!spanB d.Rounds[i] 40000) = true then some true else some (!wiB (d.Widths[i]'(by omega)) (2 * d.Loss) 2000)).bind _ = _
    cases spanB d.Rounds[i] 40000 <;> cases wiB (d.Widths[i]'(by omega)) (2 * d.Loss) 2000 <;> rfl) (by simp [F_ref02_Check_s2]) (by omega)
  obtain ⟨q, hq⟩ : ∃ q : Bolt → Bool, ∀ b ∈ d.Bolts, F_ref02_isBolt n b = some (q b) ∧ (q b = true → VB b) := by
    refine ⟨fun b => (F_ref02_isBolt n b).getD false, fun b hb => ?_⟩
    obtain ⟨r, hr, hv⟩ := p_isBolt02 hn (h5 b hb)
    simp only [hr, Option.getD_some]
    exact ⟨trivial, hv⟩
  have l3 := loop_all_l (step := F_ref02_Check_s3 n d) d.Bolts q (21 : Int) (n := n) (by omega) (fun i x hx hi => by
    simp only [F_ref02_Check_s3, lt_nat, hi, decide_true, if_true, geti_nat, hx, Option.bind_some, (hq x (List.mem_of_getElem? hx)).1, w64_nat (show i ≤ 4611686018427387904 by omega)]
    cases q x <;> rfl) (by simp [F_ref02_Check_s3]) (by omega)
  simp only [l1, l2, l3]
  cases c1 : d.Gores.all fun x => wiB x 0 ((d.Bolts.length : Int) - 1)
  · exact ⟨20, rfl, fun h => by cases h⟩
  cases c2 : (List.range d.Rounds.length).all fun i => spanB ((d.Rounds[i]?).getD ⟨0, 0⟩) 40000 && wiB ((d.Widths[i]?).getD 0) (2 * d.Loss) 2000
  · exact ⟨20, rfl, fun h => by cases h⟩
  cases c3 : d.Bolts.all q
  · exact ⟨21, rfl, fun h => by cases h⟩
  have key : ∀ i, i < d.Rounds.length → spanB ((d.Rounds[i]?).getD ⟨0, 0⟩) 40000 = true ∧ wiB ((d.Widths[i]?).getD 0) (2 * d.Loss) 2000 = true := fun i hi => by
    have := List.all_eq_true.1 c2 i (List.mem_range.2 hi)
    rwa [Bool.and_eq_true] at this
  refine ⟨0, rfl, fun _ => ⟨by omega, by omega, b3, by omega, by omega, b6, fun x hx => ?_, fun s hs => ?_, fun x hx => ?_, fun b hb => (hq b hb).2 (List.all_eq_true.1 c3 b hb)⟩⟩
  · have := wiB_t.1 (List.all_eq_true.1 c1 x hx); omega
  · obtain ⟨i, hi, rfl⟩ := List.getElem_of_mem hs
    have := (key i hi).1
    rw [List.getElem?_eq_getElem hi] at this
    exact spanB_t.1 this
  · obtain ⟨i, hi, rfl⟩ := List.getElem_of_mem hx
    have := (key i (by omega)).2
    rw [List.getElem?_eq_getElem hi] at this
    exact wiB_t.1 this
omit hn in
theorem pull_eq {long by_ : Int} (h1 : 0 ≤ long) (h2 : long ≤ 2000) (h3 : 0 ≤ by_) (h4 : by_ ≤ 60) : w64 ((w64 (long * (w64 (1000 + by_)))).tdiv 1000) = pullS long by_ := by
  obtain ⟨a, b⟩ := pull_in h1 h2 h3 h4
  rw [w64_id (n := 1000 + by_) (by omega) (by omega), w64_id (n := long * (1000 + by_)) (by omega) (by omega)]
  exact w64_id (by unfold pullS at b; omega) (by unfold pullS at b; omega)
theorem p_False {b : Bolt} (h : VB b) {s : Int} (h3 : 0 ≤ s) (h4 : s ≤ 60) : F_ref02_False n b s = some (falseN b s : Int) := by
  have hb := h.n
  have hl := loop_fold (step := F_ref02_False_s1 n b s) b.Strips (fun i (k : Nat) => ((k : Int), (i : Int))) (fun k x => if (!wiB (pullS x.Long s) x.Pulled.Low x.Pulled.High) = true then k + 1 else k) (fun k => (k : Int)) (fun i k => k ≤ i) (n := n) 0 (Nat.le_refl _) (fun i x k hf hk => by
    have hi : i < b.Strips.length := (List.getElem?_eq_some_iff.1 hf).1
    have hx := h.st x (List.mem_of_getElem? hf)
    simp only [F_ref02_False_s1, lt_nat, hi, decide_true, if_true, geti_nat, hf, F_ref02_Pull, F_ref02_within, pull_eq (show 0 ≤ x.Long by omega) (by omega) h3 h4, Option.bind_some, w64_nat (show i ≤ 4611686018427387904 by omega), w64_nat (show k ≤ 4611686018427387904 by omega)]
    show ((if (!wiB (pullS x.Long s) x.Pulled.Low x.Pulled.High) = true then some ((k + 1 : Nat) : Int) else some (k : Int) : Option Int).bind _) = _ ∧ _
    cases wiB (pullS x.Long s) x.Pulled.Low x.Pulled.High
    · simp only [Bool.not_false, if_true, Option.bind_some]; exact ⟨trivial, by omega⟩
    · simp only [Bool.not_true, Bool.false_eq_true, if_false, Option.bind_some]; exact ⟨trivial, by omega⟩) (fun k hk => by
    simp [F_ref02_False_s1]) (by omega)
  have h1 := hl.1
  rw [foldl_cnt (fun x : Strip => !wiB (pullS x.Long s) x.Pulled.Low x.Pulled.High), Nat.zero_add] at h1
  unfold F_ref02_False
  rw [show ((0 : Int), (0 : Int)) = (((0 : Nat) : Int), ((0 : Nat) : Int)) from rfl, h1]; rfl
theorem p_Can {b : Bolt} (h : VB b) {s : Int} (h3 : b.Stretch.Low ≤ s) (h4 : s ≤ b.Stretch.High) : F_ref02_Can n b s = some (canP b s) := by
  have hs := h.s
  have e : (decide (b.Stretch.Low ≤ s) && decide (s ≤ b.Stretch.High)) = true := by simp; omega
  simp only [F_ref02_Can, F_ref02_within, e, Option.bind_some, if_true, p_False hn h (show 0 ≤ s by omega) (by omega)]
  rfl
theorem p_numbers {b : Bolt} (h : VB b) : F_ref02_numbers n b = some (numL b) := by
  have hs := h.s
  have hl := loop_span (step := F_ref02_numbers_s1 n b) (hi := b.Stretch.High) (fun s f => if canP b f = true then s ++ [f] else s) (fun s => s) (fun f s => b.Stretch.Low ≤ f ∧ s.length ≤ (f - b.Stretch.Low).toNat) _ b.Stretch.Low [] n rfl ⟨Int.le_refl _, by simp⟩ (fun f s k1 k2 hI => by
    have hlim : lim (s ++ [f]) = some (s ++ [f]) := lim_ok (by rw [List.length_append, List.length_singleton]; omega)
    have hw : w64 (f + 1) = f + 1 := w64_id (by omega) (by omega)
    simp only [F_ref02_numbers_s1, decide_eq_true k2, if_true, p_Can hn h k1 k2, Option.bind_some, hlim, hw]
    cases canP b f
    · simp only [Bool.false_eq_true, if_false, Option.bind_some]; exact ⟨trivial, by omega, by omega⟩
    · simp only [if_true, Option.bind_some]; exact ⟨trivial, by omega, by rw [List.length_append, List.length_singleton]; omega⟩) (fun f s hf => by
    simp only [F_ref02_numbers_s1, decide_eq_false (show ¬ f ≤ b.Stretch.High by omega), Bool.false_eq_true, if_false]) (by omega)
  simp only [F_ref02_numbers, hl, Option.bind_some, foldl_filter', List.nil_append]
  rfl
end
def prodL : List (List Int) → List (List Int)
  | [] => [[]]
  | l :: ls => l.flatMap fun x => (prodL ls).map (x :: ·)
theorem flatMap_le {α β : Type} {f : α → List β} {c : Nat} : ∀ {l : List α}, (∀ x ∈ l, (f x).length ≤ c) → (l.flatMap f).length ≤ l.length * c
  | [], _ => by simp
  | a :: l, h => by
    have ih := flatMap_le (l := l) fun x hx => h x (List.mem_cons_of_mem _ hx)
    have := h a (List.mem_cons_self ..)
    rw [List.flatMap_cons, List.length_append, List.length_cons, Nat.succ_mul]; omega
theorem prod_len : ∀ (ls : List (List Int)), (∀ l ∈ ls, l.length ≤ 61) → (prodL ls).length ≤ 61 ^ ls.length
  | [], _ => by simp [prodL]
  | l :: ls, h => by
    have ih := prod_len ls fun x hx => h x (List.mem_cons_of_mem _ hx)
    have hl := h l (List.mem_cons_self ..)
    unfold prodL
    have h1 := flatMap_le (l := l) (f := fun x => (prodL ls).map (x :: ·)) (c := (prodL ls).length) fun x _ => by simp
    rw [List.length_cons, Nat.pow_succ, Nat.mul_comm]
    exact Nat.le_trans h1 (Nat.mul_le_mul hl ih)
theorem prod_ne : ∀ (ls : List (List Int)), prodL ls ≠ [] → ∀ l ∈ ls, l ≠ []
  | [], _, _, h => by cases h
  | l :: ls, h, x, hx => by
    have hl : l ≠ [] := fun e => by subst e; exact h rfl
    have hls : prodL ls ≠ [] := fun e => by
      apply h
      unfold prodL
      rw [e]
      simp
    rcases List.mem_cons.1 hx with rfl | hx
    · exact hl
    · exact prod_ne ls hls x hx
theorem p_truths02 {n : Nat} (hn : 100000000 ≤ n) {d : Dome} (hd : VD d) : ∀ (k : Nat) (first : List Int) (m : Nat), first.length + k = d.Bolts.length → 100000000 + k < m → F_ref02_truths m d first = some ((prodL ((d.Bolts.drop first.length).map numL)).map (first ++ ·)) := by
  have _hn := hn
  have hnb := hd.nb
  intro k
  induction k with
  | zero =>
    intro first m hk hm
    obtain ⟨m, rfl⟩ : ∃ k, m = k + 1 := ⟨m - 1, by omega⟩
    have e : ((first.length : Int) == (d.Bolts.length : Int)) = true := by simp; omega
    simp only [F_ref02_truths, e, if_true]
    rw [List.drop_eq_nil_of_le (by omega)]
    simp [prodL]
  | succ k ih =>
    intro first m hk hm
    obtain ⟨m, rfl⟩ : ∃ k, m = k + 1 := ⟨m - 1, by omega⟩
    have e : ((first.length : Int) == (d.Bolts.length : Int)) = false := by simp; omega
    have hlt : first.length < d.Bolts.length := by omega
    have hb := hd.b _ (List.getElem_mem hlt)
    have hgt : geti d.Bolts (first.length : Int) = some d.Bolts[first.length] := by rw [geti_nat]; exact List.getElem?_eq_getElem hlt
    simp only [F_ref02_truths, e, Bool.false_eq_true, if_false, hgt, Option.bind_some, p_numbers (n := m) (by omega) hb]
    generalize hB : d.Bolts[first.length] = b at *
    have hnl := num_len hb
    have hc : (prodL ((d.Bolts.drop (first.length + 1)).map numL)).length ≤ 226981 := by
      have h1 := prod_len ((d.Bolts.drop (first.length + 1)).map numL) fun x hx => by
        obtain ⟨y, hy, rfl⟩ := List.mem_map.1 hx
        exact num_len (hd.b y (List.mem_of_mem_drop hy))
      have h2 : ((d.Bolts.drop (first.length + 1)).map numL).length ≤ 3 := by rw [List.length_map, List.length_drop]; omega
      have h3 : (61 : Nat) ^ ((d.Bolts.drop (first.length + 1)).map numL).length ≤ 61 ^ 3 := Nat.pow_le_pow_right (by omega) h2
      omega
    have hl := loop_fold (step := F_ref02_truths_s1 m (F_ref02_truths m) d first (numL b)) (numL b) (fun i (s : List (List Int)) => ((i : Int), s)) (fun s x => s ++ (prodL ((d.Bolts.drop (first.length + 1)).map numL)).map ((first ++ [x]) ++ ·)) (fun s => s) (fun i s => s.length ≤ i * 226981) (n := m) [] (by simp) (fun i x s hx hI => by
      have hi : i < (numL b).length := (List.getElem?_eq_some_iff.1 hx).1
      have e1 : lim (([] : List Int) ++ first) = some first := by rw [List.nil_append]; exact lim_ok (by omega)
      have e2 : lim (first ++ [x]) = some (first ++ [x]) := lim_ok (by simp; omega)
      have e3 := ih (first ++ [x]) m (by simp; omega) (by omega)
      have e4 : (first ++ [x]).length = first.length + 1 := by simp
      rw [e4] at e3
      have e5 : lim (s ++ (prodL ((d.Bolts.drop (first.length + 1)).map numL)).map ((first ++ [x]) ++ ·)) = some (s ++ (prodL ((d.Bolts.drop (first.length + 1)).map numL)).map ((first ++ [x]) ++ ·)) := lim_ok (by rw [List.length_append, List.length_map]; omega)
      refine ⟨?_, by rw [List.length_append, List.length_map]; omega⟩
      simp only [F_ref02_truths_s1, lt_nat, hi, decide_true, if_true, geti_nat, hx, e1, e2, e3, e5, Option.bind_some, w64_nat (show i ≤ 4611686018427387904 by omega)]) (fun s hI => by
      simp [F_ref02_truths_s1]) (by omega)
    rw [show (0 : Int) = ((0 : Nat) : Int) from rfl, hl.1, Option.bind_some]
    congr 1
    rw [foldl_app, List.nil_append, List.drop_eq_getElem_cons hlt, hB, List.map_cons]
    conv => rhs; unfold prodL
    rw [List.map_flatMap]
    congr 1
    funext f
    rw [List.map_map]
    congr 1
    funext c
    simp
section
variable {n : Nat} (hn : 200000000 ≤ n)
include hn
theorem p_Far02 (d : Dome) : ∃ b, F_law02_Far n d = some b ∧ (b = false → d.Bolts.length ≤ 20 ∧ d.Gores.length ≤ 60 ∧ d.Rounds.length ≤ 60 ∧ ∀ b ∈ d.Bolts, b.Strips.length ≤ 60) := by
  have hn1 : 100000000 ≤ n := by omega
  simp only [F_law02_Far]
  split
  · exact ⟨true, rfl, fun h => by cases h⟩
  · rename_i h
    simp only [Bool.or_eq_true, decide_eq_true_eq, not_or] at h
    obtain ⟨⟨⟨h1, h2⟩, h3⟩, h4⟩ := h
    have l1 := loop_all_l (step := F_law02_Far_s1 n d) d.Bolts (fun b => !decide (60 < (b.Strips.length : Int))) true (n := n) (by omega) (fun i x hx hi => by
      simp only [F_law02_Far_s1, lt_nat, hi, decide_true, if_true, geti_nat, hx, Option.bind_some, w64_nat (show i ≤ 4611686018427387904 by omega)]
      cases decide (60 < (x.Strips.length : Int)) <;> rfl) (by simp [F_law02_Far_s1]) (by omega)
    rw [l1]
    cases c : d.Bolts.all fun b => !decide (60 < (b.Strips.length : Int))
    · exact ⟨true, rfl, fun h => by cases h⟩
    · have hst : ∀ b ∈ d.Bolts, b.Strips.length ≤ 60 := fun b hb => by
        have := List.all_eq_true.1 c b hb
        simp only [Bool.not_eq_true', decide_eq_false_iff_not] at this
        omega
      obtain ⟨e, he, hv⟩ := p_Check02 hn1 (d := d) (by omega) (by omega) (by omega) hst
      simp only [cond_true, Option.bind_some, he]
      have fin : d.Bolts.length ≤ 20 ∧ d.Gores.length ≤ 60 ∧ d.Rounds.length ≤ 60 ∧ ∀ b ∈ d.Bolts, b.Strips.length ≤ 60 := ⟨by omega, by omega, by omega, hst⟩
      split
      · exact ⟨false, rfl, fun _ => fin⟩
      · rename_i hz
        have hd := hv (by simpa using hz)
        have l2 := loop_foldl (step := F_law02_Far_s2 n d) d.Bolts (fun i (b : Int) => (b, (i : Int))) (fun b x => w64 (b * ((numL x).length : Int))) (fun b => b) (n := n) 1 (fun i x b hx hi => by
          have hb := hd.b x (List.mem_of_getElem? hx)
          have hs := hb.s
          have l3 := loop_run (step := F_law02_Far_s3 n d (i : Int)) (fun j => ((((span x.Stretch.Low x.Stretch.High).take j).countP (canP x) : Int), x.Stretch.Low + (j : Int))) (r := ((numL x).length : Int)) (span x.Stretch.Low x.Stretch.High).length 0 n (fun j _ hj => by
            have hj : j < (span x.Stretch.Low x.Stretch.High).length := by omega
            have hsl := span_len x.Stretch.Low x.Stretch.High
            have hle : x.Stretch.Low + (j : Int) ≤ x.Stretch.High := by omega
            have hge : (span x.Stretch.Low x.Stretch.High)[j]? = some (x.Stretch.Low + (j : Int)) := by
              unfold span
              rw [List.getElem?_map, List.getElem?_range (by omega)]; rfl
            have hc : ((span x.Stretch.Low x.Stretch.High).take j).countP (canP x) ≤ j := Nat.le_trans List.countP_le_length (by rw [List.length_take]; omega)
            have hw : w64 (x.Stretch.Low + (j : Int) + 1) = x.Stretch.Low + ((j + 1 : Nat) : Int) := by rw [w64_id (by omega) (by omega)]; omega
            simp only [F_law02_Far_s3, geti_nat, hx, Option.bind_some, decide_eq_true hle, if_true, p_Can hn1 hb (show x.Stretch.Low ≤ x.Stretch.Low + (j : Int) by omega) hle, hw, List.take_add_one, hge, Option.toList_some, List.countP_append, List.countP_singleton]
            cases canP x (x.Stretch.Low + (j : Int))
            · simp only [Bool.false_eq_true, if_false, Option.bind_some, Nat.add_zero]
            · simp only [if_true, Option.bind_some]
              rw [w64_nat (by omega)]) (by
            have hsl := span_len x.Stretch.Low x.Stretch.High
            have hgt : ¬ x.Stretch.Low + ((0 + (span x.Stretch.Low x.Stretch.High).length : Nat) : Int) ≤ x.Stretch.High := by omega
            rw [Nat.zero_add] at hgt ⊢
            simp only [F_law02_Far_s3, geti_nat, hx, Option.bind_some, decide_eq_false hgt, Bool.false_eq_true, if_false, List.take_length]
            unfold numL
            rw [List.countP_eq_length_filter]) (by rw [span_len]; omega)
          simp only [List.take_zero, List.countP_nil, show ((0 : Nat) : Int) = 0 from rfl, Int.add_zero] at l3
          simp only [F_law02_Far_s2, lt_nat, hi, decide_true, if_true, geti_nat, hx, Option.bind_some, l3, w64_nat (show i ≤ 4611686018427387904 by omega)]) (fun b => by
          simp [F_law02_Far_s2]) (by omega)
        rw [show ((1 : Int), (0 : Int)) = ((1 : Int), ((0 : Nat) : Int)) from rfl, l2]
        exact ⟨_, rfl, fun _ => fin⟩
theorem p_all04 {l : List Int} (hl : l.length ≤ 1000) (many low high : Int) : F_ref04_all n l many low high = some ((l.all fun x => !(decide (x < low) || decide (high < x))) && ((l.length : Int) == many)) := by
  have l1 := loop_all_l (step := F_ref04_all_s1 n l low high) l (fun x => !(decide (x < low) || decide (high < x))) false (n := n) (by omega) (fun i x hx hi => by
    simp only [F_ref04_all_s1, lt_nat, hi, decide_true, if_true, geti_nat, hx, Option.bind_some, w64_nat (show i ≤ 4611686018427387904 by omega)]
    cases decide (x < low) <;> cases decide (high < x) <;> rfl) (by simp [F_ref04_all_s1]) (by omega)
  simp only [F_ref04_all, l1]
  cases l.all fun x => !(decide (x < low) || decide (high < x)) <;> rfl
end
end Go.Proofs.Yteihdclpiekmaaa
end
section
namespace Go.Proofs.Yteihdclpiekmaaa
open Go Go.RowKit Go.Dec
/-- each bolt has a number in some truth -/
def Known (d : Dome) : Prop := ∀ b ∈ d.Bolts, numL b ≠ []
section
variable {n : Nat} (hn : 200000000 ≤ n)
include hn
theorem p_Check04 {f : Figure} (h1 : f.Dome.Bolts.length ≤ 60) (h2 : f.Dome.Gores.length ≤ 60) (h3 : f.Dome.Rounds.length ≤ 60) (h4 : ∀ b ∈ f.Dome.Bolts, b.Strips.length ≤ 60) (h5 : f.Starts.length ≤ 60) (h6 : f.Times.length ≤ 60) :
    ∃ e, F_ref04_Check n f = some e ∧ (e = 0 → VF f) := by
  obtain ⟨e, he, hv⟩ := p_Check02 (n := n) (by omega) h1 h2 h3 h4
  simp only [F_ref04_Check, he, Option.bind_some]
  by_cases hz : e = 0
  rotate_left
  · have : (e != 0) = true := by simpa using hz
    rw [if_pos this]
    exact ⟨e, rfl, fun h => absurd h hz⟩
  have hd := hv hz
  rw [hz]
  simp only [bne_self_eq_false, Bool.false_eq_true, if_false, p_all04 hn (l := f.Starts) (by omega), p_all04 hn (l := f.Times) (by omega), Option.bind_some]
  by_cases hA : ((((((decide (f.Period < 1)) || (decide (60 < f.Period))) || (decide (f.Run < 0))) || (decide (2000 < f.Run))) || (decide (f.Near < 0))) || (decide ((w64 (f.Period.tdiv 2)) < f.Near))) = true
  · simp only [hA, if_true, Option.bind_some]
    exact ⟨40, rfl, fun h => by cases h⟩
  · rw [if_neg hA]
    simp only [Bool.or_eq_true, decide_eq_true_eq, not_or] at hA
    obtain ⟨⟨⟨⟨⟨a1, a2⟩, a3⟩, a4⟩, a5⟩, a6⟩ := hA
    have ew : w64 (f.Period.tdiv 2) = f.Period / 2 := by
      rw [Int.tdiv_eq_ediv_of_nonneg (by omega)]
      exact w64_id (by omega) (by omega)
    have ew2 : w64 (f.Period - 1) = f.Period - 1 := w64_id (by omega) (by omega)
    rw [ew] at a6
    rw [ew2]
    simp only [Option.bind_some]
    cases c1 : ((f.Starts.all fun x => !(decide (x < 0) || decide (f.Period - 1 < x))) && ((f.Starts.length : Int) == (f.Dome.Gores.length : Int)))
    · simp only [Bool.not_false, if_true, Option.bind_some]
      exact ⟨40, rfl, fun h => by cases h⟩
    · simp only [Bool.not_true, Bool.false_eq_true, if_false, Option.bind_some]
      cases c2 : ((f.Times.all fun x => !(decide (x < 1) || decide (99 < x))) && ((f.Times.length : Int) == (f.Dome.Gores.length : Int)))
      · simp only [Bool.not_false, if_true]
        exact ⟨40, rfl, fun h => by cases h⟩
      · simp only [Bool.not_true, Bool.false_eq_true, if_false]
        rw [Bool.and_eq_true, beq_iff_eq, List.all_eq_true] at c1 c2
        refine ⟨0, rfl, fun _ => ⟨hd, by omega, by omega, by omega, by omega, by omega, fun x hx => ?_, fun x hx => ?_⟩⟩
        · have := c1.1 x hx
          simp only [Bool.not_eq_true', Bool.or_eq_false_iff, decide_eq_false_iff_not] at this
          omega
        · have := c2.1 x hx
          simp only [Bool.not_eq_true', Bool.or_eq_false_iff, decide_eq_false_iff_not] at this
          omega
theorem p_Far04 (f : Figure) : ∃ b, F_law04_Far n f = some b ∧ (b = false → f.Dome.Bolts.length ≤ 20 ∧ f.Dome.Gores.length ≤ 60 ∧ f.Dome.Rounds.length ≤ 60 ∧ (∀ b ∈ f.Dome.Bolts, b.Strips.length ≤ 60) ∧ f.Starts.length ≤ 60 ∧ f.Times.length ≤ 60 ∧ (F_ref04_Check n f = some 0 → f.Starts.length ≤ 5 ∧ f.Period ≤ 8)) := by
  obtain ⟨b, hb, hv⟩ := p_Far02 hn f.Dome
  simp only [F_law04_Far, F_law04_FarRing, hb, Option.bind_some]
  cases c : ((b || (decide (60 < (f.Starts.length : Int)))) || (decide (60 < (f.Times.length : Int))))
  rotate_left
  · simp only [if_true, Option.bind_some]
    exact ⟨true, rfl, fun h => by cases h⟩
  · simp only [Bool.false_eq_true, if_false]
    rw [Bool.or_eq_false_iff, Bool.or_eq_false_iff, decide_eq_false_iff_not, decide_eq_false_iff_not] at c
    obtain ⟨⟨c1, c2⟩, c3⟩ := c
    obtain ⟨h1, h2, h3, h4⟩ := hv c1
    obtain ⟨e, he, _⟩ := p_Check04 hn (f := f) (by omega) h2 h3 h4 (by omega) (by omega)
    simp only [he, Option.bind_some]
    refine ⟨_, rfl, fun hf => ⟨h1, h2, h3, h4, by omega, by omega, fun h0 => ?_⟩⟩
    obtain rfl := Option.some.inj h0
    simp only [beq_self_eq_true, Bool.true_and, Bool.or_eq_false_iff, decide_eq_false_iff_not] at hf
    omega
theorem p_CheckTruth {f : Figure} (h1 : f.Dome.Bolts.length ≤ 60) (h2 : f.Dome.Gores.length ≤ 60) (h3 : f.Dome.Rounds.length ≤ 60) (h4 : ∀ b ∈ f.Dome.Bolts, b.Strips.length ≤ 60) (h5 : f.Starts.length ≤ 60) (h6 : f.Times.length ≤ 60) :
    ∃ e, F_ref04_CheckTruth n f = some e ∧ (e = 0 → VF f ∧ Known f.Dome ∧ F_ref04_Check n f = some 0) := by
  obtain ⟨e, he, hv⟩ := p_Check04 hn h1 h2 h3 h4 h5 h6
  simp only [F_ref04_CheckTruth, F_ref04_check, he, Option.bind_some]
  by_cases hz : e = 0
  rotate_left
  · have : (e != 0) = true := by simpa using hz
    rw [if_pos this]
    exact ⟨e, rfl, fun h => absurd h hz⟩
  have hf := hv hz
  have hd := hf.d
  have hnb := hd.nb; have hng := hd.ng; have hnr := hd.nr; have hs := hf.s
  rw [hz]
  have c1 : (decide ((0 : Int) < 0) || decide ((f.Starts.length : Int) ≤ 0)) = false := by rw [decide_eq_false (by omega), decide_eq_false (by omega)]; rfl
  obtain ⟨e2, he2, hv2⟩ := p_Check02 (n := n) (by omega) h1 h2 h3 h4
  simp only [bne_self_eq_false, Bool.false_eq_true, if_false, c1, F_ref02_Stretches, F_ref02_known, he2, Option.bind_some]
  by_cases hz2 : e2 = 0
  rotate_left
  · have : (e2 != 0) = true := by simpa using hz2
    simp only [this, if_true, Option.bind_some]
    exact ⟨e2, rfl, fun h => absurd h hz2⟩
  have w1 : F_ref02_within n 0 0 (w64 ((f.Dome.Bolts.length : Int) - 1)) = some true := by
    rw [w64_id (by omega) (by omega)]
    exact congrArg some (wiB_t.2 ⟨by omega, by omega⟩)
  have w2 : F_ref02_within n 0 0 (w64 ((f.Dome.Rounds.length : Int) - 1)) = some true := by
    rw [w64_id (by omega) (by omega)]
    exact congrArg some (wiB_t.2 ⟨by omega, by omega⟩)
  have ht := p_truths02 (n := n) (by omega) hd f.Dome.Bolts.length [] n (by simp) (by omega)
  simp only [List.length_nil, List.drop_zero, List.nil_append, List.map_id'] at ht
  rw [hz2]
  simp only [bne_self_eq_false, Bool.false_eq_true, if_false, w1, w2, Option.bind_some, Bool.not_true, ht]
  by_cases hT : prodL (f.Dome.Bolts.map numL) = []
  · have : (((prodL (f.Dome.Bolts.map numL)).length : Int) == 0) = true := by rw [hT]; rfl
    simp only [this, if_true, Option.bind_some]
    exact ⟨3, rfl, fun h => by cases h⟩
  · have hpos : (((prodL (f.Dome.Bolts.map numL)).length : Int) == 0) = false := by
      have := List.length_pos_iff.2 hT
      rw [beq_eq_false_iff_ne]; omega
    have hg0 : geti f.Dome.Bolts 0 = some (f.Dome.Bolts[0]'(by omega)) := by
      have := geti_nat f.Dome.Bolts 0
      rw [show ((0 : Nat) : Int) = 0 from rfl] at this
      rw [this]; exact List.getElem?_eq_getElem (by omega)
    simp only [hpos, Bool.false_eq_true, if_false, Option.bind_some, bne_self_eq_false, hg0, p_numbers (n := n) (by omega) (hd.b _ (List.getElem_mem (show 0 < f.Dome.Bolts.length by omega)))]
    exact ⟨0, rfl, fun _ => ⟨hf, fun b hb => prod_ne _ hT _ (List.mem_map.2 ⟨b, hb, rfl⟩), trivial⟩⟩
theorem p_allI {l : List Int} (hl : l.length ≤ 1000) {is : Int → Option Bool} (h : ∀ x ∈ l, is x = some true) : F_cloth_all_int_ n l is = some true := by
  have l1 := loop_all_l (step := F_slices_IndexFunc___int_int__s1 n l (fun a0_ => F_cloth_all_int__1 n a0_ is)) l (fun _ => true) (0 : Int) (n := n) (by omega) (fun i x hx hi => by
    simp only [F_slices_IndexFunc___int_int__s1, lt_nat, hi, decide_true, if_true, geti_nat, hx, Option.bind_some, F_cloth_all_int__1, h x (List.mem_of_getElem? hx), Bool.not_true, Bool.false_eq_true, if_false, w64_nat (show i ≤ 4611686018427387904 by omega), cond_true]) (by simp [F_slices_IndexFunc___int_int__s1]) (by omega)
  have e : (l.all fun _ => true) = true := by simp
  rw [e] at l1
  simp only [F_cloth_all_int_, F_slices_ContainsFunc___int_int_, F_slices_IndexFunc___int_int_, l1, cond_true, Option.bind_some]
  rfl
theorem p_allS {l : List Span} (hl : l.length ≤ 1000) {is : Span → Option Bool} (h : ∀ x ∈ l, is x = some true) : F_cloth_all_api_Span_ n l is = some true := by
  have l1 := loop_all_l (step := F_slices_IndexFunc___api_Span_api_Span__s1 n l (fun a0_ => F_cloth_all_api_Span__1 n a0_ is)) l (fun _ => true) (0 : Int) (n := n) (by omega) (fun i x hx hi => by
    simp only [F_slices_IndexFunc___api_Span_api_Span__s1, lt_nat, hi, decide_true, if_true, geti_nat, hx, Option.bind_some, F_cloth_all_api_Span__1, h x (List.mem_of_getElem? hx), Bool.not_true, Bool.false_eq_true, if_false, w64_nat (show i ≤ 4611686018427387904 by omega), cond_true]) (by simp [F_slices_IndexFunc___api_Span_api_Span__s1]) (by omega)
  have e : (l.all fun _ => true) = true := by simp
  rw [e] at l1
  simp only [F_cloth_all_api_Span_, F_slices_ContainsFunc___api_Span_api_Span_, F_slices_IndexFunc___api_Span_api_Span_, l1, cond_true, Option.bind_some]
  rfl
theorem p_allB {l : List Bolt} (hl : l.length ≤ 1000) {is : Bolt → Option Bool} (h : ∀ x ∈ l, is x = some true) : F_cloth_all_api_Bolt_ n l is = some true := by
  have l1 := loop_all_l (step := F_slices_IndexFunc___api_Bolt_api_Bolt__s1 n l (fun a0_ => F_cloth_all_api_Bolt__1 n a0_ is)) l (fun _ => true) (0 : Int) (n := n) (by omega) (fun i x hx hi => by
    simp only [F_slices_IndexFunc___api_Bolt_api_Bolt__s1, lt_nat, hi, decide_true, if_true, geti_nat, hx, Option.bind_some, F_cloth_all_api_Bolt__1, h x (List.mem_of_getElem? hx), Bool.not_true, Bool.false_eq_true, if_false, w64_nat (show i ≤ 4611686018427387904 by omega), cond_true]) (by simp [F_slices_IndexFunc___api_Bolt_api_Bolt__s1]) (by omega)
  have e : (l.all fun _ => true) = true := by simp
  rw [e] at l1
  simp only [F_cloth_all_api_Bolt_, F_slices_ContainsFunc___api_Bolt_api_Bolt_, F_slices_IndexFunc___api_Bolt_api_Bolt_, l1, cond_true, Option.bind_some]
  rfl
theorem p_allT {l : List Strip} (hl : l.length ≤ 1000) {is : Strip → Option Bool} (h : ∀ x ∈ l, is x = some true) : F_cloth_all_api_Strip_ n l is = some true := by
  have l1 := loop_all_l (step := F_slices_IndexFunc___api_Strip_api_Strip__s1 n l (fun a0_ => F_cloth_all_api_Strip__1 n a0_ is)) l (fun _ => true) (0 : Int) (n := n) (by omega) (fun i x hx hi => by
    simp only [F_slices_IndexFunc___api_Strip_api_Strip__s1, lt_nat, hi, decide_true, if_true, geti_nat, hx, Option.bind_some, F_cloth_all_api_Strip__1, h x (List.mem_of_getElem? hx), Bool.not_true, Bool.false_eq_true, if_false, w64_nat (show i ≤ 4611686018427387904 by omega), cond_true]) (by simp [F_slices_IndexFunc___api_Strip_api_Strip__s1]) (by omega)
  have e : (l.all fun _ => true) = true := by simp
  rw [e] at l1
  simp only [F_cloth_all_api_Strip_, F_slices_ContainsFunc___api_Strip_api_Strip_, F_slices_IndexFunc___api_Strip_api_Strip_, l1, cond_true, Option.bind_some]
  rfl
omit hn in
theorem c_within (n : Nat) {x a b : Int} (h : a ≤ x ∧ x ≤ b) : F_cloth_within n x a b = some true := by
  unfold F_cloth_within; simp; exact h
omit hn in
theorem c_isSpan (n : Nat) {s : Span} {m : Int} (h : (0 ≤ s.Low ∧ s.Low ≤ s.High) ∧ s.High ≤ m) : F_cloth_isSpan n s m = some true := by
  unfold F_cloth_isSpan
  rw [c_within n h.1]; simp; exact h.2
theorem c_isBolt {b : Bolt} (h : VB b) : F_cloth_isBolt n b = some true := by
  have hbn := h.n
  have e : decide ((b.Strips.length : Int) ≤ 8) = true := by simp; omega
  have hst := p_allT hn (l := b.Strips) (by omega) (is := fun a0_ => F_cloth_isStrip n a0_) (fun x hx => by
    have := h.st x hx
    simp only [F_cloth_isStrip, c_within n this.1, Option.bind_some, if_true, c_isSpan n this.2])
  simp only [F_cloth_isBolt, c_isSpan n h.s, Option.bind_some, e, Bool.and_self, if_true, hst, c_within n h.w]
theorem c_Check {d : Dome} (h : VD d) : F_cloth_Check n d = some 0 := by
  have hnb := h.nb; have hng := h.ng; have hl := h.l; have hnr := h.nr; have hnw := h.nw
  have e1 := p_allI hn (l := d.Gores) (by omega) (is := fun a0_ => F_cloth_isDome_1 n a0_ d) (fun x hx => by
    have := h.g x hx
    simp only [F_cloth_isDome_1]
    rw [w64_id (by omega) (by omega), c_within n (by omega)]; rfl)
  have e2 := p_allS hn (l := d.Rounds) (by omega) (is := fun a0_ => F_cloth_isDome_2 n a0_) (fun x hx => by
    simp only [F_cloth_isDome_2, c_isSpan n (h.r x hx), Option.bind_some])
  have e3 := p_allI hn (l := d.Widths) (by omega) (is := fun a0_ => F_cloth_isDome_3 n a0_ d) (fun x hx => by
    have := h.w x hx
    simp only [F_cloth_isDome_3]
    rw [w64_id (by omega) (by omega), c_within n (by omega)]; rfl)
  have e4 := p_allB hn (l := d.Bolts) (by omega) (is := fun a0_ => F_cloth_isBolt n a0_) (fun x hx => c_isBolt hn (h.b x hx))
  have e5 : ((d.Widths.length : Int) == (d.Rounds.length : Int)) = true := by simp; omega
  have hD : F_cloth_isDome n d = some true := by
    simp only [F_cloth_isDome, c_within n (show (1 : Int) ≤ (d.Bolts.length : Int) ∧ (d.Bolts.length : Int) ≤ 4 by omega), c_within n (show (3 : Int) ≤ (d.Gores.length : Int) ∧ (d.Gores.length : Int) ≤ 16 by omega), e1, c_within n h.l, c_within n (show (1 : Int) ≤ (d.Rounds.length : Int) ∧ (d.Rounds.length : Int) ≤ 12 by omega), e2, e3, e5, c_within n h.sl, Option.bind_some, if_true, Bool.and_self]
  simp only [F_cloth_Check, hD, e4, Option.bind_some, Bool.not_true, Bool.false_eq_true, if_false]
theorem c_wrong {b : Bolt} (h : VB b) {s : Int} (h3 : 0 ≤ s) (h4 : s ≤ 60) : F_cloth_wrong n b s = some (falseN b s : Int) := by
  have hb := h.n
  have hl := loop_fold (step := F_cloth_wrong_s1 n b s) b.Strips (fun i (k : Nat) => ((k : Int), (i : Int))) (fun k x => if (!wiB (pullS x.Long s) x.Pulled.Low x.Pulled.High) = true then k + 1 else k) (fun k => (k : Int)) (fun i k => k ≤ i) (n := n) 0 (Nat.le_refl _) (fun i x k hf hk => by
    have hi : i < b.Strips.length := (List.getElem?_eq_some_iff.1 hf).1
    have hx := h.st x (List.mem_of_getElem? hf)
    simp only [F_cloth_wrong_s1, lt_nat, hi, decide_true, if_true, geti_nat, hf, F_cloth_pull, F_cloth_within, pull_eq (show 0 ≤ x.Long by omega) (by omega) h3 h4, Option.bind_some, w64_nat (show i ≤ 4611686018427387904 by omega), w64_nat (show k ≤ 4611686018427387904 by omega)]
    show ((if (!wiB (pullS x.Long s) x.Pulled.Low x.Pulled.High) = true then some ((k + 1 : Nat) : Int) else some (k : Int) : Option Int).bind _) = _ ∧ _
    cases wiB (pullS x.Long s) x.Pulled.Low x.Pulled.High
    · simp only [Bool.not_false, if_true, Option.bind_some]; exact ⟨trivial, by omega⟩
    · simp only [Bool.not_true, Bool.false_eq_true, if_false, Option.bind_some]; exact ⟨trivial, by omega⟩) (fun k hk => by
    simp [F_cloth_wrong_s1]) (by omega)
  have h1 := hl.1
  rw [foldl_cnt (fun x : Strip => !wiB (pullS x.Long s) x.Pulled.Low x.Pulled.High), Nat.zero_add] at h1
  unfold F_cloth_wrong
  rw [show ((0 : Int), (0 : Int)) = (((0 : Nat) : Int), ((0 : Nat) : Int)) from rfl, h1]; rfl
theorem c_numbers {b : Bolt} (h : VB b) : I_cloth_numbers_1 n b (F_cloth_pitch_s2 n b) [] = some (.inl (numL b)) := by
  have hs := h.s
  unfold I_cloth_numbers_1
  have hl := loop_span (step := I_cloth_numbers_1_s b (F_cloth_pitch_s2 n b)) (hi := b.Stretch.High) (fun s f => if canP b f = true then s ++ [f] else s) (fun s => (Sum.inl s : List Int ⊕ Unit)) (fun f s => b.Stretch.Low ≤ f ∧ s.length ≤ (f - b.Stretch.Low).toNat) _ b.Stretch.Low [] n rfl ⟨Int.le_refl _, by simp⟩ (fun f s k1 k2 hI => by
    have hlim : lim (s ++ [f]) = some (s ++ [f]) := lim_ok (by rw [List.length_append, List.length_singleton]; omega)
    have hw : w64 (f + 1) = f + 1 := w64_id (by omega) (by omega)
    simp only [I_cloth_numbers_1_s, decide_eq_true k2, if_true, F_cloth_pitch_s2, c_wrong hn h (show 0 ≤ f by omega) (by omega), Option.bind_some, hlim, hw]
    show ((if canP b f = true then some (s ++ [f]) else some s : Option (List Int)).bind _).bind _ = _ ∧ _
    cases canP b f
    · simp only [Bool.false_eq_true, if_false, Option.bind_some]; exact ⟨trivial, by omega, by omega⟩
    · simp only [if_true, Option.bind_some]; exact ⟨trivial, by omega, by rw [List.length_append, List.length_singleton]; omega⟩) (fun f s hf => by
    simp only [I_cloth_numbers_1_s, decide_eq_false (show ¬ f ≤ b.Stretch.High by omega), Bool.false_eq_true, if_false]) (by omega)
  rw [hl, foldl_filter', List.nil_append]
  rfl
theorem p_pitch {d : Dome} (h : VD d) (hk : Known d) : F_cloth_pitch n d true = some (some ⟨d, d.Bolts.map numL⟩, 0) := by
  have hnb := h.nb
  have hl := loop_fold (step := F_cloth_pitch_s1 n d) d.Bolts (fun i (s : List (List Int)) => ((i : Int), s)) (fun s b => s ++ [numL b]) (fun s => (Sum.inr s : ((Option cloth_tent) × Int) ⊕ List (List Int))) (fun i s => s.length ≤ i) (n := n) [] (Nat.le_refl _) (fun i b s hb hI => by
    have hi : i < d.Bolts.length := (List.getElem?_eq_some_iff.1 hb).1
    have hbm := List.mem_of_getElem? hb
    have hlim : lim (s ++ [numL b]) = some (s ++ [numL b]) := lim_ok (by rw [List.length_append, List.length_singleton]; omega)
    have hz : (((numL b).length : Int) == 0) = false := by
      have := List.length_pos_iff.2 (hk b hbm)
      rw [beq_eq_false_iff_ne]; omega
    refine ⟨?_, by rw [List.length_append, List.length_singleton]; omega⟩
    simp only [F_cloth_pitch_s1, lt_nat, hi, decide_true, if_true, geti_nat, hb, Option.bind_some, F_cloth_numbers, c_numbers hn (h.b b hbm), hz, Bool.false_eq_true, if_false, hlim, w64_nat (show i ≤ 4611686018427387904 by omega)]) (fun s hI => by
    simp [F_cloth_pitch_s1]) (by omega)
  have h1 := hl.1
  rw [foldl_map1, List.nil_append] at h1
  simp only [F_cloth_pitch, c_Check hn h, Option.bind_some, bne_self_eq_false, Bool.false_eq_true, if_false, Bool.not_true]
  rw [show (0 : Int) = ((0 : Nat) : Int) from rfl, h1]; rfl
theorem p_Stretches {d : Dome} (h : VD d) (hk : Known d) {i : Nat} {b : Bolt} (hb : d.Bolts[i]? = some b) : F_cloth_Stretches n d (i : Int) = some (numL b, 0) := by
  have hnb := h.nb
  have hi : i < d.Bolts.length := (List.getElem?_eq_some_iff.1 hb).1
  have hg : geti (d.Bolts.map numL) (i : Int) = some (numL b) := by rw [geti_nat, List.getElem?_map, hb]; rfl
  simp only [F_cloth_Stretches, F_cloth_isBoltOf]
  rw [w64_id (by omega) (by omega), c_within n (by omega)]
  simp only [Option.bind_some, p_pitch hn h hk, bne_self_eq_false, Bool.false_eq_true, if_false, hg]
/-- the sum of what all gores of a row are pulled to -/
def pickS (d : Dome) (w : Int) (pick : List Int → Int) : Int := d.Gores.foldl (fun s g => s + pullS (w - 2 * d.Loss) (pick ((d.Bolts.map numL)[g.toNat]?.getD []))) 0
omit hn in
theorem gore_get {d : Dome} (h : VD d) (hk : Known d) {g : Int} (hg : g ∈ d.Gores) : ∃ b ∈ d.Bolts, geti (d.Bolts.map numL) g = some (numL b) ∧ (d.Bolts.map numL)[g.toNat]?.getD [] = numL b ∧ numL b ≠ [] ∧ geti d.Bolts g = some b := by
  have hgb := h.g g hg
  have hgl : g.toNat < d.Bolts.length := by omega
  refine ⟨d.Bolts[g.toNat], List.getElem_mem hgl, ?_, ?_, hk _ (List.getElem_mem hgl), ?_⟩
  · unfold geti; rw [if_pos hgb.1, List.getElem?_map, List.getElem?_eq_getElem hgl]; rfl
  · rw [List.getElem?_map, List.getElem?_eq_getElem hgl]; rfl
  · unfold geti; rw [if_pos hgb.1, List.getElem?_eq_getElem hgl]
theorem p_round {d : Dome} (h : VD d) (hk : Known d) {w : Int} (hw : 2 * d.Loss ≤ w ∧ w ≤ 2000) : F_cloth_tent_round n ⟨d, d.Bolts.map numL⟩ w = some ⟨pickS d w (fun l => l.headD 0), pickS d w (fun l => l.getLastD 0)⟩ := by
  have hng := h.ng
  have hlo := h.l
  have hl := loop_fold (step := F_cloth_tent_round_s1 n ⟨d, d.Bolts.map numL⟩ w) d.Gores (fun i (s : Int × Int) => ((i : Int), s.1, s.2)) (fun s g => (s.1 + pullS (w - 2 * d.Loss) (((d.Bolts.map numL)[g.toNat]?.getD []).headD 0), s.2 + pullS (w - 2 * d.Loss) (((d.Bolts.map numL)[g.toNat]?.getD []).getLastD 0))) (fun s => s) (fun i s => (0 ≤ s.1 ∧ s.1 ≤ i * 2120) ∧ 0 ≤ s.2 ∧ s.2 ≤ i * 2120) (n := n) (0, 0) (by simp) (fun i g s hg hI => by
    have hi : i < d.Gores.length := (List.getElem?_eq_some_iff.1 hg).1
    obtain ⟨b, hb, g1, g2, g3, _⟩ := gore_get h hk (List.mem_of_getElem? hg)
    have hbs := (h.b b hb).s
    have hpos := List.length_pos_iff.2 g3
    have hnl := num_len (h.b b hb)
    obtain ⟨hh, hhe⟩ : ∃ x, (numL b)[0]? = some x := ⟨_, List.getElem?_eq_getElem hpos⟩
    obtain ⟨tt, hte⟩ : ∃ x, (numL b)[(numL b).length - 1]? = some x := ⟨_, List.getElem?_eq_getElem (show (numL b).length - 1 < (numL b).length by omega)⟩
    have hhm := num_mem (List.mem_of_getElem? hhe)
    have htm := num_mem (List.mem_of_getElem? hte)
    have e1 : geti (numL b) 0 = some hh := by
      have := geti_nat (numL b) 0
      rw [show ((0 : Nat) : Int) = 0 from rfl] at this
      rw [this]; exact hhe
    have e2 : geti (numL b) (w64 (((numL b).length : Int) - 1)) = some tt := by
      rw [w64_id (by omega) (by omega), show ((numL b).length : Int) - 1 = (((numL b).length - 1 : Nat) : Int) by omega, geti_nat]; exact hte
    have e3 : (numL b).headD 0 = hh := by
      cases hl : numL b with
      | nil => rw [hl] at g3; exact absurd rfl g3
      | cons a l => rw [hl] at hhe; simpa using hhe
    have e4 : (numL b).getLastD 0 = tt := by
      rw [← List.getLast?_eq_getElem?] at hte
      rw [List.getLastD_eq_getLast?, hte]; rfl
    have ew : w64 (w - w64 (2 * d.Loss)) = w - 2 * d.Loss := by rw [w64_id (n := 2 * d.Loss) (by omega) (by omega)]; exact w64_id (by omega) (by omega)
    have p1 := (pull_in (long := w - 2 * d.Loss) (by_ := hh) (by omega) (by omega) (by omega) (by omega)).2
    have p2 := (pull_in (long := w - 2 * d.Loss) (by_ := tt) (by omega) (by omega) (by omega) (by omega)).2
    rw [g2, e3, e4]
    refine ⟨?_, ?_⟩
    · simp only [F_cloth_tent_round_s1, lt_nat, hi, decide_true, if_true, geti_nat, hg, Option.bind_some, g1, e1, e2, ew, F_cloth_pull, pull_eq (show 0 ≤ w - 2 * d.Loss by omega) (show w - 2 * d.Loss ≤ 2000 by omega) (show 0 ≤ hh by omega) (by omega), pull_eq (show 0 ≤ w - 2 * d.Loss by omega) (show w - 2 * d.Loss ≤ 2000 by omega) (show 0 ≤ tt by omega) (by omega), w64_nat (show i ≤ 4611686018427387904 by omega)]
      rw [w64_id (n := s.1 + _) (by omega) (by omega), w64_id (n := s.2 + _) (by omega) (by omega)]
    · simp only; omega) (fun s hI => by
    simp [F_cloth_tent_round_s1]) (by omega)
  have h1 := hl.1
  unfold F_cloth_tent_round
  rw [show ((0 : Int), (0 : Int), (0 : Int)) = (((0 : Nat) : Int), (((0 : Int), (0 : Int)) : Int × Int).1, (((0 : Int), (0 : Int)) : Int × Int).2) from rfl, h1]
  have key : ∀ (l : List Int) (s : Int × Int), l.foldl (fun s g => (s.1 + pullS (w - 2 * d.Loss) (((d.Bolts.map numL)[g.toNat]?.getD []).headD 0), s.2 + pullS (w - 2 * d.Loss) (((d.Bolts.map numL)[g.toNat]?.getD []).getLastD 0))) s = (l.foldl (fun s g => s + pullS (w - 2 * d.Loss) (((d.Bolts.map numL)[g.toNat]?.getD []).headD 0)) s.1, l.foldl (fun s g => s + pullS (w - 2 * d.Loss) (((d.Bolts.map numL)[g.toNat]?.getD []).getLastD 0)) s.2) := by
    intro l
    induction l with
    | nil => intro s; rfl
    | cons a l ih => intro s; rw [List.foldl_cons, List.foldl_cons, List.foldl_cons, ih]
  rw [key]; rfl
theorem p_Round {d : Dome} (h : VD d) (hk : Known d) {i : Nat} {w : Int} (hi : d.Widths[i]? = some w) : F_cloth_Round n d (i : Int) = some (⟨pickS d w (fun l => l.headD 0), pickS d w (fun l => l.getLastD 0)⟩, 0) := by
  have hil := (List.getElem?_eq_some_iff.1 hi).1
  have hnw := h.nw; have hnr := h.nr
  simp only [F_cloth_Round, F_cloth_isRow]
  rw [w64_id (by omega) (by omega), c_within n (by omega)]
  simp only [Option.bind_some, p_pitch hn h hk, bne_self_eq_false, Bool.false_eq_true, if_false, geti_nat, hi, p_round hn h hk (h.w w (List.mem_of_getElem? hi))]
end
end Go.Proofs.Yteihdclpiekmaaa
end
section
set_option maxRecDepth 100000
set_option maxHeartbeats 40000000
namespace Go.Proofs.Yteihdclpiekmaaa
open Go Go.RowKit Go.Dec
set_option linter.unusedVariables false
-- 3 ferrule/ferruletop.TopStiff
noncomputable def F_top_TopStiff_s1 (n : Nat) (f_ : Figure) : Int × List Int → Option ((Int × List Int) ⊕ (Bool ⊕ (List Int)))
 | (i_449, out_450) => if decide (i_449 < (f_.Dome.Bolts.length : Int)) = true then ((F_cloth_Stretches n f_.Dome i_449).bind fun y455 => if ((y455.2 != 0) || ((y455.1.length : Int) == 0)) = true then (some (Sum.inr (Sum.inl false))) else (if decide (1 < (y455.1.length : Int)) = true then ((F_top_sewn n).bind fun y462 => some (Sum.inr (Sum.inl y462))) else ((geti y455.1 0).bind fun y463 => (if decide (y463 < 0) = true then (some true) else ((geti y455.1 0).bind fun y476 => some (decide (60 < y476))) : Option Bool).bind fun p473 => if p473 = true then (some (Sum.inr (Sum.inl false))) else ((geti y455.1 0).bind fun y488 => (F_ref02_Pull n f_.Run y488).bind fun y493 => (lim (out_450 ++ [y493])).bind fun l495 => some (Sum.inl ((w64 (i_449 + 1)), l495)))))) else (some (Sum.inr (Sum.inr out_450)))
noncomputable def F_top_TopStiff_s2 (n : Nat) (f_ : Figure) (out_302 : List Int) : Int × Int → Option ((Int × Int) ⊕ (Bool ⊕ Int))
 | (sum_662, i_663) => if decide (i_663 < (f_.Starts.length : Int)) = true then ((geti f_.Dome.Gores i_663).bind fun y668 => (geti out_302 y668).bind fun y673 => (F_seams_Meets n f_ i_663).bind fun y678 => if ((y678.2 != 0) || ((y678.1 != 1) && (y678.1 != 2))) = true then (some (Sum.inr (Sum.inl false))) else (some (Sum.inl ((w64 (sum_662 + y673)), (w64 (i_663 + 1)))))) else (some (Sum.inr (Sum.inr sum_662)))
noncomputable def F_top_TopStiff_s3 (n : Nat) (f_ : Figure) : Int → Option (Int ⊕ (Bool ⊕ Unit))
 | i_775 => if decide (i_775 < (f_.Dome.Rounds.length : Int)) = true then ((F_cloth_Round n f_.Dome i_775).bind fun y780 => (F_cloth_Tight n f_.Dome i_775).bind fun y782 => if ((((y780.2 != 0) || (y782.2 != 0)) || (y780.1.Low != y780.1.High)) || ((y782.1 != 1) && (y782.1 != 2))) = true then (some (Sum.inr (Sum.inl false))) else (some (Sum.inl (w64 (i_775 + 1))))) else (some (Sum.inr (Sum.inr ())))
noncomputable def F_top_TopStiff (n : Nat) (f_ : Figure) : Option Bool :=
 (F_law04_Far n f_).bind fun y2 => (if y2 = true then (some true) else ((F_ref04_CheckTruth n f_).bind fun y7 => some (y7 != 0)) : Option Bool).bind fun p4 => if p4 = true then ((F_top_sewn n).bind fun y9 => some y9) else ((loopO n (F_top_TopStiff_s1 n f_) (0, ([] : List Int))).bind fun r304 => match r304 with | .inl o => some o | .inr out_302 => (loopO n (F_top_TopStiff_s2 n f_ out_302) (0, 0)).bind fun r617 => match r617 with | .inl o => some o | .inr sum_615 => (loopO n (F_top_TopStiff_s3 n f_) 0).bind fun r740 => match r740 with | .inl o => some o | .inr _ => (F_seams_Closest n f_).bind fun y794 => (if (y794.2 == 0) = true then ((nz f_.Period).bind fun _ => some ((y794.1 == 0) == ((sum_615.tmod f_.Period) == 0))) else (some false) : Option Bool).bind fun p796 => (if p796 = true then ((F_top_sewn n).bind fun y804 => some y804) else (some false) : Option Bool).bind fun p801 => some p801)
theorem c_top_TopStiff (n : Nat) (H : Hp) (f_ : Figure) (f__v0 : Value) (hf__0 : SL H 4 R_Bolt f__v0 f_.Dome.Bolts) (f__v1 : Value) (hf__1 : SL H 1 RInt f__v1 f_.Dome.Gores) (f__v3 : Value) (hf__3 : SL H 2 R_Span f__v3 f_.Dome.Rounds) (f__v4 : Value) (hf__4 : SL H 1 RInt f__v4 f_.Dome.Widths) (f__v9 : Value) (hf__9 : SL H 1 RInt f__v9 f_.Starts) (f__v10 : Value) (hf__10 : SL H 1 RInt f__v10 f_.Times) (y : Bool) (hF : F_top_TopStiff n f_ = some y) : SC Try.prog 3 [.agg [f__v0, f__v1, .int .i64 f_.Dome.Loss, f__v3, f__v4, .int .i64 f_.Dome.Slope, .int .i64 f_.Period, .int .i64 f_.Run, .int .i64 f_.Near, f__v9, f__v10].toArray] (.bool y) H := by
 rw [F_top_TopStiff] at hF
 refine SC.of (N := 168) Try.func3 rfl rfl rfl fun w => ?_
 refine JC.seq (JC.region (by rfl) ?_)
 intro hQ
 refine JL.box (cs := [f__v0, f__v1, .int .i64 f_.Dome.Loss, f__v3, f__v4, .int .i64 f_.Dome.Slope, .int .i64 f_.Period, .int .i64 f_.Run, .int .i64 f_.Near, f__v9, f__v10]) rfl .none rfl ?_
 intro b1
 refine JL.assign .none rfl ?_
 refine JL.done hQ (JQ.go (JC.seq (JC.seq (JC.region (by rfl) ?_))))
 intro hQ
 refine JL.loadOwn 0 az_28 rfl rfl rfl .none rfl ?_
 obtain ⟨y2, hy2, hF⟩ := bind_some hF
 refine JL.callS (c_law04_Far n H f_ f__v0 hf__0 f__v1 hf__1 f__v3 hf__3 f__v4 hf__4 f__v9 hf__9 f__v10 hf__10 y2 hy2) rfl en_9 .none rfl ?_
 refine JL.move .none rfl ?_
 obtain ⟨p4, hp4, hF⟩ := bind_some hF
 refine JL.cut 4 (fun f => f 1 = .pointer (some ⟨b1, 0, none⟩) ∧ f 24 = .bool p4) ?_ ?_
 ·intro hJ5
  rcases ite_some hp4 with ⟨hc6, hF⟩ | ⟨hc6, hF⟩
  ·skip
   refine JL.skip (.bool rfl rfl rfl hc6) rfl ?_
   refine JL.skip (.bool rfl rfl rfl hc6) rfl ?_
   refine JL.skip (.bool rfl rfl rfl hc6) rfl ?_
   refine JL.pick_t (b := y2) rfl hc6 .none rfl ?_
   obtain rfl := Option.some.inj hF
   exact hJ5 _ ⟨rfl, rfl⟩
  ·skip
   refine JL.loadOwn 0 az_28 rfl rfl rfl (.some rfl rfl rfl hc6) rfl ?_
   obtain ⟨y7, hy7, hF⟩ := bind_some hF
   refine JL.callS (c_ref04_CheckTruth n H f_ f__v0 hf__0 f__v1 hf__1 f__v3 hf__3 f__v4 hf__4 f__v9 hf__9 f__v10 hf__10 y7 hy7) rfl en_10 (.some rfl rfl rfl hc6) rfl ?_
   refine JL.bin rfl rfl rfl (.some rfl rfl rfl hc6) rfl ?_
   refine JL.pick_f (b := y2) rfl hc6 .none rfl ?_
   obtain rfl := Option.some.inj hF
   exact hJ5 _ ⟨rfl, rfl⟩
 ·rintro f ⟨hf1, hf24⟩
  refine (JL.norm (i := 1) hf1 (JL.norm (i := 24) hf24 ?_))
  refine JL.done hQ (JQ.go ?_)
  rcases ite_some hF with ⟨hc8, hF⟩ | ⟨hc8, hF⟩
  ·refine JC.cond_t (b := p4) rfl hc8 ?_
   refine JC.seq (JC.region (by rfl) ?_)
   intro hQ
   obtain ⟨y9, hy9, hF⟩ := bind_some hF
   refine JL.callS (c_top_sewn n H y9 hy9) rfl en_11 .none rfl ?_
   refine JL.assign .none rfl ?_
   refine JL.done hQ (JQ.go (JC.ret (JQ.ret_then ?_)))
   obtain rfl := Option.some.inj hF
   exact JQ.outS rfl (.tmp .nil) rfl
  ·refine JC.cond_f (b := p4) rfl hc8 ?_
   refine JC.skip (JQ.go (JC.seq (JC.region (by rfl) ?_)))
   intro hQ
   refine JL.assign .none rfl ?_
   refine JL.done hQ (JQ.go (JC.seq (JC.seq (JC.region (by rfl) ?_))))
   intro hQ
   refine JL.assign .none rfl ?_
   refine JL.done hQ (JQ.go (JC.newNil (e := 3) (sz := 1) ?_))
   obtain ⟨r304, hlr304, hKr304⟩ := bind_some hF
   refine JC.join (fun (out_302 : List Int) H303 f bs gs => ∃ (vout_302 : Value) (xsout_302 : List Value), f 1 = .pointer (some ⟨b1, 0, none⟩) ∧ f 3 = vout_302 ∧ bs = [(b1, .cells [f__v0, f__v1, .int .i64 f_.Dome.Loss, f__v3, f__v4, .int .i64 f_.Dome.Slope, .int .i64 f_.Period, .int .i64 f_.Run, .int .i64 f_.Near, f__v9, f__v10].toArray 28)] ∧ gs = [⟨vout_302, 3, 1, out_302.length, xsout_302⟩] ∧ CH H303 1 RInt xsout_302 out_302 ∧ HSub H H303 ∧ Sum.inr out_302 = r304) ?_ ?_
   ·skip
    refine JC.block (JC.loop hlr304 (fun (x : Int × List Int) H451 f bs gs => match x with | (i_449, out_450) => ∃ (vout_450 : Value) (xsout_450 : List Value), f 1 = .pointer (some ⟨b1, 0, none⟩) ∧ f 3 = vout_450 ∧ f 4 = .int .i64 i_449 ∧ bs = [(b1, .cells [f__v0, f__v1, .int .i64 f_.Dome.Loss, f__v3, f__v4, .int .i64 f_.Dome.Slope, .int .i64 f_.Period, .int .i64 f_.Run, .int .i64 f_.Near, f__v9, f__v10].toArray 28)] ∧ gs = [⟨vout_450, 3, 1, out_450.length, xsout_450⟩] ∧ CH H451 1 RInt xsout_450 out_450 ∧ HSub H H451) ⟨(.slice none 0 0), [], rfl, rfl, rfl, rfl, rfl, CH.nil, (HSub.refl _)⟩ ?_)
    rintro ⟨i_449, out_450⟩ x453 H451 f bs gs ⟨vout_450, xsout_450, hf1, hf3, hf4, rfl, rfl, hout_450, hs451⟩ hF hr452
    rw [F_top_TopStiff_s1] at hF
    refine (JC.norm (i := 1) hf1 (JC.norm (i := 3) hf3 (JC.norm (i := 4) hf4 ?_)))
    refine JC.seq (JC.seq (JC.region (by rfl) ?_))
    intro hQ
    refine JL.move .none rfl ?_
    refine JL.fieldAddr fo_28_0 rfl .none rfl ?_
    refine JL.fieldAddr fo_26_0 rfl .none rfl ?_
    refine JL.loadOwn 0 az_22 rfl rfl rfl .none rfl ?_
    refine JL.lenSL (R := R_Bolt) ul_22 (SL.mono R_Bolt_mono hs451 hf__0) .none rfl ?_
    refine JL.bin rfl rfl rfl .none rfl ?_
    refine JL.done hQ (JQ.go ?_)
    rcases ite_some hF with ⟨hc454, hF⟩ | ⟨hc454, hF⟩
    ·refine JC.cond_t (b := decide (i_449 < (f_.Dome.Bolts.length : Int))) rfl hc454 ?_
     refine JC.skip (JQ.go (JC.seq (JC.block (JC.seq (JC.region (by rfl) ?_)))))
     intro hQ
     refine JL.fieldAddr fo_28_0 rfl .none rfl ?_
     refine JL.loadOwn 0 az_26 rfl rfl rfl .none rfl ?_
     refine JL.move .none rfl ?_
     obtain ⟨y455, hy455, hF⟩ := bind_some hF
     refine JL.callH (c_cloth_Stretches n H451 f_.Dome f__v0 (SL.mono R_Bolt_mono hs451 hf__0) f__v1 (SL.mono RInt.mono hs451 hf__1) f__v3 (SL.mono R_Span_mono hs451 hf__3) f__v4 (SL.mono RInt.mono hs451 hf__4) i_449 y455 hy455) rfl en_12 .none rfl ?_
     rintro H456 vv457 hs456 ⟨y455a_v0, rfl, hy455a_0⟩
     refine JL.move .none rfl ?_
     refine JL.extract rfl rfl .none rfl ?_
     refine JL.extract rfl rfl .none rfl ?_
     refine JL.assign .none rfl ?_
     refine JL.assign .none rfl ?_
     refine JL.done hQ (JQ.go (JC.fresh (fun f => f 1 = .pointer (some ⟨b1, 0, none⟩) ∧ f 3 = vout_450 ∧ f 4 = .int .i64 i_449 ∧ f 5 = y455a_v0 ∧ f 6 = .int .i64 y455.2) ⟨rfl, rfl, rfl, rfl, rfl⟩ ?_))
     rintro f ⟨hf1, hf3, hf4, hf5, hf6⟩
     refine (JC.norm (i := 1) hf1 (JC.norm (i := 3) hf3 (JC.norm (i := 4) hf4 (JC.norm (i := 5) hf5 (JC.norm (i := 6) hf6 ?_)))))
     refine JC.seq (JC.seq (JC.region (by rfl) ?_))
     intro hQ
     refine JL.move .none rfl ?_
     refine JL.bin rfl rfl rfl .none rfl ?_
     refine JL.move .none rfl ?_
     refine JL.cut 4 (fun f => f 1 = .pointer (some ⟨b1, 0, none⟩) ∧ f 3 = vout_450 ∧ f 4 = .int .i64 i_449 ∧ f 5 = y455a_v0 ∧ f 47 = .bool ((y455.2 != 0) || ((y455.1.length : Int) == 0))) ?_ ?_
     ·intro hJ458
      rcases bcases (y455.2 != 0) with hc459 | hc459
      ·skip
       refine JL.skip (.bool rfl rfl rfl hc459) rfl ?_
       refine JL.skip (.bool rfl rfl rfl hc459) rfl ?_
       refine JL.skip (.bool rfl rfl rfl hc459) rfl ?_
       refine JL.pick_t (b := (y455.2 != 0)) rfl hc459 .none rfl ?_
       exact hJ458 _ ⟨rfl, rfl, rfl, rfl, or_t hc459 rfl⟩
      ·skip
       refine JL.move (.some rfl rfl rfl hc459) rfl ?_
       refine JL.lenSL (R := RInt) ul_23 hy455a_0 (.some rfl rfl rfl hc459) rfl ?_
       refine JL.bin rfl rfl rfl (.some rfl rfl rfl hc459) rfl ?_
       refine JL.pick_f (b := (y455.2 != 0)) rfl hc459 .none rfl ?_
       exact hJ458 _ ⟨rfl, rfl, rfl, rfl, or_f hc459 rfl⟩
     ·rintro f ⟨hf1, hf3, hf4, hf5, hf47⟩
      refine (JL.norm (i := 1) hf1 (JL.norm (i := 3) hf3 (JL.norm (i := 4) hf4 (JL.norm (i := 5) hf5 (JL.norm (i := 47) hf47 ?_)))))
      refine JL.done hQ (JQ.go ?_)
      rcases ite_some hF with ⟨hc460, hF⟩ | ⟨hc460, hF⟩
      ·refine JC.cond_t (b := ((y455.2 != 0) || ((y455.1.length : Int) == 0))) rfl hc460 ?_
       refine JC.seq (JC.region (by rfl) ?_)
       intro hQ
       refine JL.assign .none rfl ?_
       refine JL.done hQ (JQ.go (JC.ret (JQ.ret_then (JQ.ret_block (JQ.ret_then (JQ.ret_then (JQ.ret_block (JQ.ret_join (JQ.ret_then ?_)))))))))
       obtain rfl := Option.some.inj hF
       have ehr452 := hr452 _ rfl
       subst ehr452
       have hF := hKr304
       try dsimp only at hF
       obtain rfl := Option.some.inj hF
       exact JQ.outS rfl (.tmp .nil) rfl
      ·refine JC.cond_f (b := ((y455.2 != 0) || ((y455.1.length : Int) == 0))) rfl hc460 ?_
       refine JC.skip (JQ.go (JC.seq (JC.seq (JC.region (by rfl) ?_))))
       intro hQ
       refine JL.move .none rfl ?_
       refine JL.lenSL (R := RInt) ul_23 hy455a_0 .none rfl ?_
       refine JL.bin rfl rfl rfl .none rfl ?_
       refine JL.done hQ (JQ.go ?_)
       rcases ite_some hF with ⟨hc461, hF⟩ | ⟨hc461, hF⟩
       ·refine JC.cond_t (b := decide (1 < (y455.1.length : Int))) rfl hc461 ?_
        refine JC.seq (JC.region (by rfl) ?_)
        intro hQ
        obtain ⟨y462, hy462, hF⟩ := bind_some hF
        refine JL.callS (c_top_sewn n H456 y462 hy462) rfl en_11 .none rfl ?_
        refine JL.assign .none rfl ?_
        refine JL.done hQ (JQ.go (JC.ret (JQ.ret_then (JQ.ret_block (JQ.ret_then (JQ.ret_then (JQ.ret_block (JQ.ret_join (JQ.ret_then ?_)))))))))
        obtain rfl := Option.some.inj hF
        have ehr452 := hr452 _ rfl
        subst ehr452
        have hF := hKr304
        try dsimp only at hF
        obtain rfl := Option.some.inj hF
        exact JQ.outS rfl (.tmp .nil) rfl
       ·refine JC.cond_f (b := decide (1 < (y455.1.length : Int))) rfl hc461 ?_
        refine JC.skip (JQ.go (JC.seq (JC.seq (JC.region (by rfl) ?_))))
        intro hQ
        refine JL.move .none rfl ?_
        obtain ⟨y463, hy463, hF⟩ := bind_some hF
        refine JL.indexSL (R := RInt) sl_23 hy455a_0 rfl hy463 .none rfl ?_
        rintro b464 o465 cs466 hc467 - rfl
        refine JL.loadH 0 az_3 rfl hc467 rfl .none rfl ?_
        refine JL.bin rfl rfl rfl .none rfl ?_
        refine JL.move .none rfl ?_
        obtain ⟨p473, hp473, hF⟩ := bind_some hF
        refine JL.cut 5 (fun f => f 1 = .pointer (some ⟨b1, 0, none⟩) ∧ f 3 = vout_450 ∧ f 4 = .int .i64 i_449 ∧ f 5 = y455a_v0 ∧ f 61 = .bool p473) ?_ ?_
        ·intro hJ474
         rcases ite_some hp473 with ⟨hc475, hF⟩ | ⟨hc475, hF⟩
         ·skip
          refine JL.skip (.bool rfl rfl rfl hc475) rfl ?_
          refine JL.skip (.bool rfl rfl rfl hc475) rfl ?_
          refine JL.skip (.bool rfl rfl rfl hc475) rfl ?_
          refine JL.skip (.bool rfl rfl rfl hc475) rfl ?_
          refine JL.pick_t (b := decide (y463 < 0)) rfl hc475 .none rfl ?_
          obtain rfl := Option.some.inj hF
          exact hJ474 _ ⟨rfl, rfl, rfl, rfl, rfl⟩
         ·skip
          refine JL.move (.some rfl rfl rfl hc475) rfl ?_
          obtain ⟨y476, hy476, hF⟩ := bind_some hF
          refine JL.indexSL (R := RInt) sl_23 hy455a_0 rfl hy476 (.some rfl rfl rfl hc475) rfl ?_
          rintro b477 o478 cs479 hc480 - rfl
          refine JL.loadH 0 az_3 rfl hc480 rfl (.some rfl rfl rfl hc475) rfl ?_
          refine JL.bin rfl rfl rfl (.some rfl rfl rfl hc475) rfl ?_
          refine JL.pick_f (b := decide (y463 < 0)) rfl hc475 .none rfl ?_
          obtain rfl := Option.some.inj hF
          exact hJ474 _ ⟨rfl, rfl, rfl, rfl, rfl⟩
        ·rintro f ⟨hf1, hf3, hf4, hf5, hf61⟩
         refine (JL.norm (i := 1) hf1 (JL.norm (i := 3) hf3 (JL.norm (i := 4) hf4 (JL.norm (i := 5) hf5 (JL.norm (i := 61) hf61 ?_)))))
         refine JL.done hQ (JQ.go ?_)
         rcases ite_some hF with ⟨hc481, hF⟩ | ⟨hc481, hF⟩
         ·refine JC.cond_t (b := p473) rfl hc481 ?_
          refine JC.seq (JC.region (by rfl) ?_)
          intro hQ
          refine JL.assign .none rfl ?_
          refine JL.done hQ (JQ.go (JC.ret (JQ.ret_then (JQ.ret_block (JQ.ret_then (JQ.ret_then (JQ.ret_block (JQ.ret_join (JQ.ret_then ?_)))))))))
          obtain rfl := Option.some.inj hF
          have ehr452 := hr452 _ rfl
          subst ehr452
          have hF := hKr304
          try dsimp only at hF
          obtain rfl := Option.some.inj hF
          exact JQ.outS rfl (.tmp .nil) rfl
         ·refine JC.cond_f (b := p473) rfl hc481 ?_
          refine JC.skip (JQ.go ?_)
          obtain ⟨y488, hy488, hF⟩ := bind_some hF
          obtain ⟨y493, hy493, hF⟩ := bind_some hF
          obtain ⟨l495, hl495, hF⟩ := bind_some hF
          refine JC.mixed 10 10 #[false, false, false, false, false, false, false, false, false, false] [(b1, .cells [f__v0, f__v1, .int .i64 f_.Dome.Loss, f__v3, f__v4, .int .i64 f_.Dome.Slope, .int .i64 f_.Period, .int .i64 f_.Run, .int .i64 f_.Near, f__v9, f__v10].toArray 28)] (by rfl) mo_ (by kernel_rfl) (by kernel_rfl) ?_
          intro hQ hE
          refine JA.take 0 (listed' := #[true, false, false, false, false, false, false, false, false, false]) hQ rfl (by kernel_rfl) (by kernel_rfl) (by kernel_rfl) (by kernel_rfl) (by kernel_rfl) hE (HSub.refl _) (.cons_cons _ (List.nil_sublist _)) ?_
          refine JL.move .none rfl ?_
          refine JA.cont ?_
          refine JA.take 1 (listed' := #[true, true, false, false, false, false, false, false, false, false]) hQ rfl (by kernel_rfl) (by kernel_rfl) (by kernel_rfl) (by kernel_rfl) (by kernel_rfl) hE (HSub.refl _) (.cons_cons _ (List.nil_sublist _)) ?_
          refine JL.fieldAddr fo_28_2 rfl .none rfl ?_
          refine JA.cont ?_
          refine JA.take 2 (listed' := #[true, true, true, false, false, false, false, false, false, false]) hQ rfl (by kernel_rfl) (by kernel_rfl) (by kernel_rfl) (by kernel_rfl) (by kernel_rfl) hE (HSub.refl _) (.cons_cons _ (List.nil_sublist _)) ?_
          refine JL.loadOwn 0 az_3 rfl rfl rfl .none rfl ?_
          refine JA.cont ?_
          refine JA.take 3 (listed' := #[true, true, true, true, false, false, false, false, false, false]) hQ rfl (by kernel_rfl) (by kernel_rfl) (by kernel_rfl) (by kernel_rfl) (by kernel_rfl) hE (HSub.refl _) (.cons_cons _ (List.nil_sublist _)) ?_
          refine JL.move .none rfl ?_
          refine JA.cont ?_
          refine JA.take 4 (listed' := #[true, true, true, true, true, false, false, false, false, false]) hQ rfl (by kernel_rfl) (by kernel_rfl) (by kernel_rfl) (by kernel_rfl) (by kernel_rfl) hE (HSub.refl _) (.cons_cons _ (List.nil_sublist _)) ?_
          refine JL.indexSL (R := RInt) sl_23 hy455a_0 rfl hy488 .none rfl ?_
          rintro b515 o516 cs517 hc518 - rfl
          refine JA.cont ?_
          refine JA.take 5 (listed' := #[true, true, true, true, true, true, false, false, false, false]) hQ rfl (by kernel_rfl) (by kernel_rfl) (by kernel_rfl) (by kernel_rfl) (by kernel_rfl) hE (HSub.refl _) (.cons_cons _ (List.nil_sublist _)) ?_
          refine JL.loadH 0 az_3 rfl hc518 rfl .none rfl ?_
          refine JA.cont ?_
          refine JA.many [6] (by kernel_rfl) (by simp) (all_one ⟨_, #[true, true, true, true, true, true, true, false, false, false], rfl, (by kernel_rfl), ?_⟩)
          refine JL.callS (c_ref02_Pull n H456 f_.Run y488 y493 hy493) rfl en_13 .none rfl ?_
          refine JA.after hE (HSub.refl _) (.cons_cons _ (List.nil_sublist _)) ?_
          refine JA.many [7] (by kernel_rfl) (by simp) (all_one ⟨_, #[true, true, true, true, true, true, true, true, false, false], rfl, (by kernel_rfl), ?_⟩)
          refine JL.buildSlice (e := 3) (l := [.int .i64 y493]) (by kernel_rfl) .none rfl ?_
          intro b519
          refine JA.after hE (HSub.refl _) (.cons _ (.cons_cons _ (List.nil_sublist _))) ?_
          refine JA.many [8] (by kernel_rfl) (by simp) (all_one ⟨_, #[true, true, true, true, true, true, true, true, true, false], rfl, (by kernel_rfl), ?_⟩)
          refine JL.appO (R := RInt) 0 0 (l := out_450) (m := [y493]) ap_23 rfl ⟨rfl, rfl⟩ rfl (CH.mono RInt.mono hs456 hout_450) rfl rfl rfl (CH.cons (cs := [.int .i64 y493]) rfl rfl CH.nil) rfl (one_cons rfl one_nil) hl495 .none rfl ?_
          intro v520 xs521 hch522
          refine JA.after hE (HSub.refl _) (.cons _ (.cons_cons _ (List.nil_sublist _))) ?_
          refine JA.take 9 (listed' := #[true, true, true, true, true, true, true, true, true, true]) hQ rfl (by kernel_rfl) (by kernel_rfl) (by kernel_rfl) (by kernel_rfl) (by kernel_rfl) hE (HSub.refl _) (.cons _ (.cons_cons _ (List.nil_sublist _))) ?_
          refine JL.assign .none rfl ?_
          refine JA.cont ?_
          refine JA.done hQ (by kernel_rfl) ?_
          refine JQ.normal_block (JQ.go (JC.fresh (fun f => f 1 = .pointer (some ⟨b1, 0, none⟩) ∧ f 3 = v520 ∧ f 4 = .int .i64 i_449) ⟨rfl, rfl, rfl⟩ ?_))
          rintro f ⟨hf1, hf3, hf4⟩
          refine (JC.norm (i := 1) hf1 (JC.norm (i := 3) hf3 (JC.norm (i := 4) hf4 ?_)))
          refine JC.region (by rfl) ?_
          intro hQ
          refine JL.move .none rfl ?_
          refine JL.bin rfl rfl rfl .none rfl ?_
          refine JL.assign .none rfl ?_
          refine JL.done hQ ?_
          obtain rfl := Option.some.inj hF
          refine JQ.mask [false, true] [true] ?_
          exact JQ.next rfl ⟨v520, xs521, rfl, rfl, rfl, rfl, rfl, hch522, (HSub.trans hs451 hs456)⟩
    ·refine JC.cond_f (b := decide (i_449 < (f_.Dome.Bolts.length : Int))) rfl hc454 ?_
     refine JC.exit (JQ.exit_then (JQ.exit_then (JQ.exit_block ?_)))
     obtain rfl := Option.some.inj hF
     have ehr452 := hr452 _ rfl
     subst ehr452
     exact JQ.join out_450 ⟨vout_450, xsout_450, rfl, rfl, rfl, rfl, hout_450, hs451, rfl⟩
   ·rintro out_302 H303 f bs gs ⟨vout_302, xsout_302, hf1, hf3, rfl, rfl, hout_302, hs303, rfl⟩
    have hF := hKr304
    try dsimp only at hF
    refine (JQ.norm (i := 1) hf1 (JQ.norm (i := 3) hf3 ?_))
    refine JQ.go (JC.seq (JC.region (by rfl) ?_))
    intro hQ
    refine JL.assign .none rfl ?_
    refine JL.done hQ (JQ.go (JC.seq (JC.seq (JC.region (by rfl) ?_))))
    intro hQ
    refine JL.assign .none rfl ?_
    refine JL.done hQ (JQ.go (JC.freezeG 0 (R := RInt) rfl RInt.mono hout_302 rfl ?_))
    intro H545 hs545 hg546
    obtain ⟨r617, hlr617, hKr617⟩ := bind_some hF
    refine JC.join (fun (sum_615 : Int) H616 f bs gs => f 1 = .pointer (some ⟨b1, 0, none⟩) ∧ f 7 = .int .i64 sum_615 ∧ bs = [(b1, .cells [f__v0, f__v1, .int .i64 f_.Dome.Loss, f__v3, f__v4, .int .i64 f_.Dome.Slope, .int .i64 f_.Period, .int .i64 f_.Run, .int .i64 f_.Near, f__v9, f__v10].toArray 28)] ∧ gs = [] ∧ HSub H545 H616 ∧ Sum.inr sum_615 = r617) ?_ ?_
    ·skip
     refine JC.block (JC.loop hlr617 (fun (x : Int × Int) H664 f bs gs => match x with | (sum_662, i_663) => f 1 = .pointer (some ⟨b1, 0, none⟩) ∧ f 3 = vout_302 ∧ f 7 = .int .i64 sum_662 ∧ f 8 = .int .i64 i_663 ∧ bs = [(b1, .cells [f__v0, f__v1, .int .i64 f_.Dome.Loss, f__v3, f__v4, .int .i64 f_.Dome.Slope, .int .i64 f_.Period, .int .i64 f_.Run, .int .i64 f_.Near, f__v9, f__v10].toArray 28)] ∧ gs = [] ∧ HSub H545 H664) ⟨rfl, rfl, rfl, rfl, rfl, rfl, (HSub.refl _)⟩ ?_)
     rintro ⟨sum_662, i_663⟩ x666 H664 f bs gs ⟨hf1, hf3, hf7, hf8, rfl, rfl, hs664⟩ hF hr665
     rw [F_top_TopStiff_s2] at hF
     refine (JC.norm (i := 1) hf1 (JC.norm (i := 3) hf3 (JC.norm (i := 7) hf7 (JC.norm (i := 8) hf8 ?_))))
     refine JC.seq (JC.seq (JC.region (by rfl) ?_))
     intro hQ
     refine JL.move .none rfl ?_
     refine JL.fieldAddr fo_28_4 rfl .none rfl ?_
     refine JL.loadOwn 0 az_23 rfl rfl rfl .none rfl ?_
     refine JL.lenSL (R := RInt) ul_23 (SL.mono RInt.mono (HSub.trans hs303 (HSub.trans hs545 hs664)) hf__9) .none rfl ?_
     refine JL.bin rfl rfl rfl .none rfl ?_
     refine JL.done hQ (JQ.go ?_)
     rcases ite_some hF with ⟨hc667, hF⟩ | ⟨hc667, hF⟩
     ·refine JC.cond_t (b := decide (i_663 < (f_.Starts.length : Int))) rfl hc667 ?_
      refine JC.skip (JQ.go (JC.seq (JC.block (JC.seq (JC.region (by rfl) ?_)))))
      intro hQ
      refine JL.move .none rfl ?_
      refine JL.move .none rfl ?_
      refine JL.fieldAddr fo_28_0 rfl .none rfl ?_
      refine JL.fieldAddr fo_26_1 rfl .none rfl ?_
      refine JL.loadOwn 0 az_23 rfl rfl rfl .none rfl ?_
      refine JL.move .none rfl ?_
      obtain ⟨y668, hy668, hF⟩ := bind_some hF
      refine JL.indexSL (R := RInt) sl_23 (SL.mono RInt.mono (HSub.trans hs303 (HSub.trans hs545 hs664)) hf__1) rfl hy668 .none rfl ?_
      rintro b669 o670 cs671 hc672 - rfl
      refine JL.loadH 0 az_3 rfl hc672 rfl .none rfl ?_
      obtain ⟨y673, hy673, hF⟩ := bind_some hF
      refine JL.indexSL (R := RInt) sl_23 (SL.mono RInt.mono hs664 hg546) rfl hy673 .none rfl ?_
      rintro b674 o675 cs676 hc677 - rfl
      refine JL.loadH 0 az_3 rfl hc677 rfl .none rfl ?_
      refine JL.bin rfl rfl rfl .none rfl ?_
      refine JL.assign .none rfl ?_
      refine JL.done hQ (JQ.go (JC.fresh (fun f => f 1 = .pointer (some ⟨b1, 0, none⟩) ∧ f 3 = vout_302 ∧ f 7 = .int .i64 (w64 (sum_662 + y673)) ∧ f 8 = .int .i64 i_663) ⟨rfl, rfl, rfl, rfl⟩ ?_))
      rintro f ⟨hf1, hf3, hf7, hf8⟩
      refine (JC.norm (i := 1) hf1 (JC.norm (i := 3) hf3 (JC.norm (i := 7) hf7 (JC.norm (i := 8) hf8 ?_))))
      refine JC.seq (JC.region (by rfl) ?_)
      intro hQ
      refine JL.loadOwn 0 az_28 rfl rfl rfl .none rfl ?_
      refine JL.move .none rfl ?_
      obtain ⟨y678, hy678, hF⟩ := bind_some hF
      refine JL.callS (c_seams_Meets n H664 f_ f__v0 (SL.mono R_Bolt_mono (HSub.trans hs303 (HSub.trans hs545 hs664)) hf__0) f__v1 (SL.mono RInt.mono (HSub.trans hs303 (HSub.trans hs545 hs664)) hf__1) f__v3 (SL.mono R_Span_mono (HSub.trans hs303 (HSub.trans hs545 hs664)) hf__3) f__v4 (SL.mono RInt.mono (HSub.trans hs303 (HSub.trans hs545 hs664)) hf__4) f__v9 (SL.mono RInt.mono (HSub.trans hs303 (HSub.trans hs545 hs664)) hf__9) f__v10 (SL.mono RInt.mono (HSub.trans hs303 (HSub.trans hs545 hs664)) hf__10) i_663 y678 hy678) rfl en_14 .none rfl ?_
      refine JL.move .none rfl ?_
      refine JL.extract rfl rfl .none rfl ?_
      refine JL.extract rfl rfl .none rfl ?_
      refine JL.assign .none rfl ?_
      refine JL.assign .none rfl ?_
      refine JL.done hQ (JQ.go (JC.seq (JC.region (by rfl) ?_)))
      intro hQ
      refine JL.move .none rfl ?_
      refine JL.bin rfl rfl rfl .none rfl ?_
      refine JL.move .none rfl ?_
      refine JL.cut 7 (fun f => f 1 = .pointer (some ⟨b1, 0, none⟩) ∧ f 3 = vout_302 ∧ f 7 = .int .i64 (w64 (sum_662 + y673)) ∧ f 8 = .int .i64 i_663 ∧ f 104 = .bool ((y678.2 != 0) || ((y678.1 != 1) && (y678.1 != 2)))) ?_ ?_
      ·intro hJ681
       rcases bcases (y678.2 != 0) with hc682 | hc682
       ·skip
        refine JL.skip (.bool rfl rfl rfl hc682) rfl ?_
        refine JL.skip (.bool rfl rfl rfl hc682) rfl ?_
        refine JL.skip (.bool rfl rfl rfl hc682) rfl ?_
        refine JL.skip (.no rfl rfl rfl) rfl ?_
        refine JL.skip (.no rfl rfl rfl) rfl ?_
        refine JL.skip (.bool rfl rfl rfl hc682) rfl ?_
        refine JL.pick_t (b := (y678.2 != 0)) rfl hc682 .none rfl ?_
        exact hJ681 _ ⟨rfl, rfl, rfl, rfl, or_t hc682 rfl⟩
       ·skip
        refine JL.move (.some rfl rfl rfl hc682) rfl ?_
        refine JL.bin rfl rfl rfl (.some rfl rfl rfl hc682) rfl ?_
        refine JL.move (.some rfl rfl rfl hc682) rfl ?_
        refine JL.cut 3 (fun f => f 1 = .pointer (some ⟨b1, 0, none⟩) ∧ f 3 = vout_302 ∧ f 7 = .int .i64 (w64 (sum_662 + y673)) ∧ f 8 = .int .i64 i_663 ∧ f 97 = .bool (y678.2 != 0) ∧ f 98 = .int .i64 y678.1 ∧ f 99 = .bool (y678.1 != 1) ∧ f 100 = .bool (y678.1 != 1) ∧ f 103 = .bool ((y678.1 != 1) && (y678.1 != 2))) ?_ ?_
        ·intro hJ683
         rcases bcases (y678.1 != 1) with hc684 | hc684
         ·skip
          refine JL.move (.some rfl rfl rfl hc684) rfl ?_
          refine JL.bin rfl rfl rfl (.some rfl rfl rfl hc684) rfl ?_
          refine JL.pick_t (b := (y678.1 != 1)) rfl hc684 (.some rfl rfl rfl hc682) rfl ?_
          exact hJ683 _ ⟨rfl, rfl, rfl, rfl, rfl, rfl, rfl, rfl, and_t hc684 rfl⟩
         ·skip
          refine JL.skip (.bool rfl rfl rfl hc684) rfl ?_
          refine JL.skip (.bool rfl rfl rfl hc684) rfl ?_
          refine JL.pick_f (b := (y678.1 != 1)) rfl hc684 (.some rfl rfl rfl hc682) rfl ?_
          exact hJ683 _ ⟨rfl, rfl, rfl, rfl, rfl, rfl, rfl, rfl, and_f hc684 rfl⟩
        ·rintro f ⟨hf1, hf3, hf7, hf8, hf97, hf98, hf99, hf100, hf103⟩
         refine (JL.norm (i := 1) hf1 (JL.norm (i := 3) hf3 (JL.norm (i := 7) hf7 (JL.norm (i := 8) hf8 (JL.norm (i := 97) hf97 (JL.norm (i := 98) hf98 (JL.norm (i := 99) hf99 (JL.norm (i := 100) hf100 (JL.norm (i := 103) hf103 ?_)))))))))
         refine JL.pick_f (b := (y678.2 != 0)) rfl hc682 .none rfl ?_
         exact hJ681 _ ⟨rfl, rfl, rfl, rfl, or_f hc682 rfl⟩
      ·rintro f ⟨hf1, hf3, hf7, hf8, hf104⟩
       refine (JL.norm (i := 1) hf1 (JL.norm (i := 3) hf3 (JL.norm (i := 7) hf7 (JL.norm (i := 8) hf8 (JL.norm (i := 104) hf104 ?_)))))
       refine JL.done hQ (JQ.go ?_)
       rcases ite_some hF with ⟨hc685, hF⟩ | ⟨hc685, hF⟩
       ·refine JC.cond_t (b := ((y678.2 != 0) || ((y678.1 != 1) && (y678.1 != 2)))) rfl hc685 ?_
        refine JC.seq (JC.region (by rfl) ?_)
        intro hQ
        refine JL.assign .none rfl ?_
        refine JL.done hQ (JQ.go (JC.ret (JQ.ret_block (JQ.ret_then (JQ.ret_then (JQ.ret_block (JQ.ret_join (JQ.ret_then ?_))))))))
        obtain rfl := Option.some.inj hF
        have ehr665 := hr665 _ rfl
        subst ehr665
        have hF := hKr617
        try dsimp only at hF
        obtain rfl := Option.some.inj hF
        exact JQ.outS rfl (.tmp .nil) rfl
       ·refine JC.cond_f (b := ((y678.2 != 0) || ((y678.1 != 1) && (y678.1 != 2)))) rfl hc685 ?_
        refine JC.skip (JQ.normal_block (JQ.go (JC.region (by rfl) ?_)))
        intro hQ
        refine JL.move .none rfl ?_
        refine JL.bin rfl rfl rfl .none rfl ?_
        refine JL.assign .none rfl ?_
        refine JL.done hQ ?_
        obtain rfl := Option.some.inj hF
        exact JQ.next rfl ⟨rfl, rfl, rfl, rfl, rfl, rfl, hs664⟩
     ·refine JC.cond_f (b := decide (i_663 < (f_.Starts.length : Int))) rfl hc667 ?_
      refine JC.exit (JQ.exit_then (JQ.exit_then (JQ.exit_block ?_)))
      obtain rfl := Option.some.inj hF
      have ehr665 := hr665 _ rfl
      subst ehr665
      exact JQ.join sum_662 ⟨rfl, rfl, rfl, rfl, hs664, rfl⟩
    ·rintro sum_615 H616 f bs gs ⟨hf1, hf7, rfl, rfl, hs616, rfl⟩
     have hF := hKr617
     try dsimp only at hF
     refine (JQ.norm (i := 1) hf1 (JQ.norm (i := 7) hf7 ?_))
     refine JQ.go (JC.seq (JC.seq (JC.region (by rfl) ?_)))
     intro hQ
     refine JL.assign .none rfl ?_
     refine JL.done hQ (JQ.go ?_)
     obtain ⟨r740, hlr740, hKr740⟩ := bind_some hF
     refine JC.join (fun (_ : Unit) H739 f bs gs => f 1 = .pointer (some ⟨b1, 0, none⟩) ∧ f 7 = .int .i64 sum_615 ∧ bs = [(b1, .cells [f__v0, f__v1, .int .i64 f_.Dome.Loss, f__v3, f__v4, .int .i64 f_.Dome.Slope, .int .i64 f_.Period, .int .i64 f_.Run, .int .i64 f_.Near, f__v9, f__v10].toArray 28)] ∧ gs = [] ∧ HSub H616 H739 ∧ Sum.inr () = r740) ?_ ?_
     ·skip
      refine JC.block (JC.loop hlr740 (fun (i_775 : Int) H776 f bs gs => f 1 = .pointer (some ⟨b1, 0, none⟩) ∧ f 7 = .int .i64 sum_615 ∧ f 11 = .int .i64 i_775 ∧ bs = [(b1, .cells [f__v0, f__v1, .int .i64 f_.Dome.Loss, f__v3, f__v4, .int .i64 f_.Dome.Slope, .int .i64 f_.Period, .int .i64 f_.Run, .int .i64 f_.Near, f__v9, f__v10].toArray 28)] ∧ gs = [] ∧ HSub H616 H776) ⟨rfl, rfl, rfl, rfl, rfl, (HSub.refl _)⟩ ?_)
      rintro i_775 x778 H776 f bs gs ⟨hf1, hf7, hf11, rfl, rfl, hs776⟩ hF hr777
      rw [F_top_TopStiff_s3] at hF
      refine (JC.norm (i := 1) hf1 (JC.norm (i := 7) hf7 (JC.norm (i := 11) hf11 ?_)))
      refine JC.seq (JC.seq (JC.region (by rfl) ?_))
      intro hQ
      refine JL.move .none rfl ?_
      refine JL.fieldAddr fo_28_0 rfl .none rfl ?_
      refine JL.fieldAddr fo_26_3 rfl .none rfl ?_
      refine JL.loadOwn 0 az_24 rfl rfl rfl .none rfl ?_
      refine JL.lenSL (R := R_Span) ul_24 (SL.mono R_Span_mono (HSub.trans hs303 (HSub.trans hs545 (HSub.trans hs616 hs776))) hf__3) .none rfl ?_
      refine JL.bin rfl rfl rfl .none rfl ?_
      refine JL.done hQ (JQ.go ?_)
      rcases ite_some hF with ⟨hc779, hF⟩ | ⟨hc779, hF⟩
      ·refine JC.cond_t (b := decide (i_775 < (f_.Dome.Rounds.length : Int))) rfl hc779 ?_
       refine JC.skip (JQ.go (JC.seq (JC.block (JC.seq (JC.region (by rfl) ?_)))))
       intro hQ
       refine JL.fieldAddr fo_28_0 rfl .none rfl ?_
       refine JL.loadOwn 0 az_26 rfl rfl rfl .none rfl ?_
       refine JL.move .none rfl ?_
       obtain ⟨y780, hy780, hF⟩ := bind_some hF
       refine JL.callS (c_cloth_Round n H776 f_.Dome f__v0 (SL.mono R_Bolt_mono (HSub.trans hs303 (HSub.trans hs545 (HSub.trans hs616 hs776))) hf__0) f__v1 (SL.mono RInt.mono (HSub.trans hs303 (HSub.trans hs545 (HSub.trans hs616 hs776))) hf__1) f__v3 (SL.mono R_Span_mono (HSub.trans hs303 (HSub.trans hs545 (HSub.trans hs616 hs776))) hf__3) f__v4 (SL.mono RInt.mono (HSub.trans hs303 (HSub.trans hs545 (HSub.trans hs616 hs776))) hf__4) i_775 y780 hy780) rfl en_15 .none rfl ?_
       refine JL.move .none rfl ?_
       refine JL.extract rfl rfl .none rfl ?_
       refine JL.extract rfl rfl .none rfl ?_
       refine JL.alloc ze_39 .none rfl ?_
       intro b781
       refine JL.storeOwn 0 (cs := [.int .i64 y780.1.Low, .int .i64 y780.1.High]) az_39 rfl rfl rfl (one_cons rfl (one_cons rfl one_nil)) rfl rfl .none ?_
       refine JL.assign .none rfl ?_
       refine JL.done hQ (JQ.go (JC.fresh (fun f => f 1 = .pointer (some ⟨b1, 0, none⟩) ∧ f 7 = .int .i64 sum_615 ∧ f 11 = .int .i64 i_775 ∧ f 12 = .pointer (some ⟨b781, 0, none⟩) ∧ f 13 = .int .i64 y780.2) ⟨rfl, rfl, rfl, rfl, rfl⟩ ?_))
       rintro f ⟨hf1, hf7, hf11, hf12, hf13⟩
       refine (JC.norm (i := 1) hf1 (JC.norm (i := 7) hf7 (JC.norm (i := 11) hf11 (JC.norm (i := 12) hf12 (JC.norm (i := 13) hf13 ?_)))))
       refine JC.seq (JC.region (by rfl) ?_)
       intro hQ
       refine JL.fieldAddr fo_28_0 rfl .none rfl ?_
       refine JL.loadOwn 1 az_26 rfl rfl rfl .none rfl ?_
       refine JL.move .none rfl ?_
       obtain ⟨y782, hy782, hF⟩ := bind_some hF
       refine JL.callS (c_cloth_Tight n H776 f_.Dome f__v0 (SL.mono R_Bolt_mono (HSub.trans hs303 (HSub.trans hs545 (HSub.trans hs616 hs776))) hf__0) f__v1 (SL.mono RInt.mono (HSub.trans hs303 (HSub.trans hs545 (HSub.trans hs616 hs776))) hf__1) f__v3 (SL.mono R_Span_mono (HSub.trans hs303 (HSub.trans hs545 (HSub.trans hs616 hs776))) hf__3) f__v4 (SL.mono RInt.mono (HSub.trans hs303 (HSub.trans hs545 (HSub.trans hs616 hs776))) hf__4) i_775 y782 hy782) rfl en_16 .none rfl ?_
       refine JL.move .none rfl ?_
       refine JL.extract rfl rfl .none rfl ?_
       refine JL.extract rfl rfl .none rfl ?_
       refine JL.assign .none rfl ?_
       refine JL.assign .none rfl ?_
       refine JL.done hQ (JQ.go (JC.seq (JC.region (by rfl) ?_)))
       intro hQ
       refine JL.move .none rfl ?_
       refine JL.bin rfl rfl rfl .none rfl ?_
       refine JL.move .none rfl ?_
       refine JL.cut 3 (fun f => f 1 = .pointer (some ⟨b1, 0, none⟩) ∧ f 7 = .int .i64 sum_615 ∧ f 11 = .int .i64 i_775 ∧ f 12 = .pointer (some ⟨b781, 0, none⟩) ∧ f 14 = .int .i64 y782.1 ∧ f 132 = .bool ((y780.2 != 0) || (y782.2 != 0))) ?_ ?_
       ·intro hJ783
        rcases bcases (y780.2 != 0) with hc784 | hc784
        ·skip
         refine JL.skip (.bool rfl rfl rfl hc784) rfl ?_
         refine JL.skip (.bool rfl rfl rfl hc784) rfl ?_
         refine JL.pick_t (b := (y780.2 != 0)) rfl hc784 .none rfl ?_
         exact hJ783 _ ⟨rfl, rfl, rfl, rfl, rfl, or_t hc784 rfl⟩
        ·skip
         refine JL.move (.some rfl rfl rfl hc784) rfl ?_
         refine JL.bin rfl rfl rfl (.some rfl rfl rfl hc784) rfl ?_
         refine JL.pick_f (b := (y780.2 != 0)) rfl hc784 .none rfl ?_
         exact hJ783 _ ⟨rfl, rfl, rfl, rfl, rfl, or_f hc784 rfl⟩
       ·rintro f ⟨hf1, hf7, hf11, hf12, hf14, hf132⟩
        refine (JL.norm (i := 1) hf1 (JL.norm (i := 7) hf7 (JL.norm (i := 11) hf11 (JL.norm (i := 12) hf12 (JL.norm (i := 14) hf14 (JL.norm (i := 132) hf132 ?_))))))
        refine JL.move .none rfl ?_
        refine JL.cut 6 (fun f => f 1 = .pointer (some ⟨b1, 0, none⟩) ∧ f 7 = .int .i64 sum_615 ∧ f 11 = .int .i64 i_775 ∧ f 14 = .int .i64 y782.1 ∧ f 139 = .bool (((y780.2 != 0) || (y782.2 != 0)) || (y780.1.Low != y780.1.High))) ?_ ?_
        ·intro hJ785
         rcases bcases ((y780.2 != 0) || (y782.2 != 0)) with hc786 | hc786
         ·skip
          refine JL.skip (.bool rfl rfl rfl hc786) rfl ?_
          refine JL.skip (.bool rfl rfl rfl hc786) rfl ?_
          refine JL.skip (.bool rfl rfl rfl hc786) rfl ?_
          refine JL.skip (.bool rfl rfl rfl hc786) rfl ?_
          refine JL.skip (.bool rfl rfl rfl hc786) rfl ?_
          refine JL.pick_t (b := ((y780.2 != 0) || (y782.2 != 0))) rfl hc786 .none rfl ?_
          exact hJ785 _ ⟨rfl, rfl, rfl, rfl, or_t hc786 rfl⟩
         ·skip
          refine JL.fieldAddr fo_39_0 rfl (.some rfl rfl rfl hc786) rfl ?_
          refine JL.loadOwn 0 az_3 rfl rfl rfl (.some rfl rfl rfl hc786) rfl ?_
          refine JL.fieldAddr fo_39_1 rfl (.some rfl rfl rfl hc786) rfl ?_
          refine JL.loadOwn 0 az_3 rfl rfl rfl (.some rfl rfl rfl hc786) rfl ?_
          refine JL.bin rfl rfl rfl (.some rfl rfl rfl hc786) rfl ?_
          refine JL.pick_f (b := ((y780.2 != 0) || (y782.2 != 0))) rfl hc786 .none rfl ?_
          exact hJ785 _ ⟨rfl, rfl, rfl, rfl, or_f hc786 rfl⟩
        ·rintro f ⟨hf1, hf7, hf11, hf14, hf139⟩
         refine (JL.norm (i := 1) hf1 (JL.norm (i := 7) hf7 (JL.norm (i := 11) hf11 (JL.norm (i := 14) hf14 (JL.norm (i := 139) hf139 ?_)))))
         refine JL.move .none rfl ?_
         refine JL.cut 7 (fun f => f 1 = .pointer (some ⟨b1, 0, none⟩) ∧ f 7 = .int .i64 sum_615 ∧ f 11 = .int .i64 i_775 ∧ f 147 = .bool ((((y780.2 != 0) || (y782.2 != 0)) || (y780.1.Low != y780.1.High)) || ((y782.1 != 1) && (y782.1 != 2)))) ?_ ?_
         ·intro hJ789
          rcases bcases (((y780.2 != 0) || (y782.2 != 0)) || (y780.1.Low != y780.1.High)) with hc790 | hc790
          ·skip
           refine JL.skip (.bool rfl rfl rfl hc790) rfl ?_
           refine JL.skip (.bool rfl rfl rfl hc790) rfl ?_
           refine JL.skip (.bool rfl rfl rfl hc790) rfl ?_
           refine JL.skip (.no rfl rfl rfl) rfl ?_
           refine JL.skip (.no rfl rfl rfl) rfl ?_
           refine JL.skip (.bool rfl rfl rfl hc790) rfl ?_
           refine JL.pick_t (b := (((y780.2 != 0) || (y782.2 != 0)) || (y780.1.Low != y780.1.High))) rfl hc790 .none rfl ?_
           exact hJ789 _ ⟨rfl, rfl, rfl, or_t hc790 rfl⟩
          ·skip
           refine JL.move (.some rfl rfl rfl hc790) rfl ?_
           refine JL.bin rfl rfl rfl (.some rfl rfl rfl hc790) rfl ?_
           refine JL.move (.some rfl rfl rfl hc790) rfl ?_
           refine JL.cut 3 (fun f => f 1 = .pointer (some ⟨b1, 0, none⟩) ∧ f 7 = .int .i64 sum_615 ∧ f 11 = .int .i64 i_775 ∧ f 140 = .bool (((y780.2 != 0) || (y782.2 != 0)) || (y780.1.Low != y780.1.High)) ∧ f 141 = .int .i64 y782.1 ∧ f 142 = .bool (y782.1 != 1) ∧ f 143 = .bool (y782.1 != 1) ∧ f 146 = .bool ((y782.1 != 1) && (y782.1 != 2))) ?_ ?_
           ·intro hJ791
            rcases bcases (y782.1 != 1) with hc792 | hc792
            ·skip
             refine JL.move (.some rfl rfl rfl hc792) rfl ?_
             refine JL.bin rfl rfl rfl (.some rfl rfl rfl hc792) rfl ?_
             refine JL.pick_t (b := (y782.1 != 1)) rfl hc792 (.some rfl rfl rfl hc790) rfl ?_
             exact hJ791 _ ⟨rfl, rfl, rfl, rfl, rfl, rfl, rfl, and_t hc792 rfl⟩
            ·skip
             refine JL.skip (.bool rfl rfl rfl hc792) rfl ?_
             refine JL.skip (.bool rfl rfl rfl hc792) rfl ?_
             refine JL.pick_f (b := (y782.1 != 1)) rfl hc792 (.some rfl rfl rfl hc790) rfl ?_
             exact hJ791 _ ⟨rfl, rfl, rfl, rfl, rfl, rfl, rfl, and_f hc792 rfl⟩
           ·rintro f ⟨hf1, hf7, hf11, hf140, hf141, hf142, hf143, hf146⟩
            refine (JL.norm (i := 1) hf1 (JL.norm (i := 7) hf7 (JL.norm (i := 11) hf11 (JL.norm (i := 140) hf140 (JL.norm (i := 141) hf141 (JL.norm (i := 142) hf142 (JL.norm (i := 143) hf143 (JL.norm (i := 146) hf146 ?_))))))))
            refine JL.pick_f (b := (((y780.2 != 0) || (y782.2 != 0)) || (y780.1.Low != y780.1.High))) rfl hc790 .none rfl ?_
            exact hJ789 _ ⟨rfl, rfl, rfl, or_f hc790 rfl⟩
         ·rintro f ⟨hf1, hf7, hf11, hf147⟩
          refine (JL.norm (i := 1) hf1 (JL.norm (i := 7) hf7 (JL.norm (i := 11) hf11 (JL.norm (i := 147) hf147 ?_))))
          refine JL.done hQ (JQ.go ?_)
          rcases ite_some hF with ⟨hc793, hF⟩ | ⟨hc793, hF⟩
          ·refine JC.cond_t (b := ((((y780.2 != 0) || (y782.2 != 0)) || (y780.1.Low != y780.1.High)) || ((y782.1 != 1) && (y782.1 != 2)))) rfl hc793 ?_
           refine JC.seq (JC.region (by rfl) ?_)
           intro hQ
           refine JL.assign .none rfl ?_
           refine JL.done hQ (JQ.go (JC.ret (JQ.ret_block (JQ.ret_then (JQ.ret_then (JQ.ret_block (JQ.ret_join (JQ.ret_then ?_))))))))
           obtain rfl := Option.some.inj hF
           have ehr777 := hr777 _ rfl
           subst ehr777
           have hF := hKr740
           try dsimp only at hF
           obtain rfl := Option.some.inj hF
           exact JQ.outS rfl (.tmp .nil) rfl
          ·refine JC.cond_f (b := ((((y780.2 != 0) || (y782.2 != 0)) || (y780.1.Low != y780.1.High)) || ((y782.1 != 1) && (y782.1 != 2)))) rfl hc793 ?_
           refine JC.skip (JQ.normal_block (JQ.go (JC.region (by rfl) ?_)))
           intro hQ
           refine JL.move .none rfl ?_
           refine JL.bin rfl rfl rfl .none rfl ?_
           refine JL.assign .none rfl ?_
           refine JL.done hQ ?_
           obtain rfl := Option.some.inj hF
           refine JQ.mask [false, true] [] ?_
           exact JQ.next rfl ⟨rfl, rfl, rfl, rfl, rfl, hs776⟩
      ·refine JC.cond_f (b := decide (i_775 < (f_.Dome.Rounds.length : Int))) rfl hc779 ?_
       refine JC.exit (JQ.exit_then (JQ.exit_then (JQ.exit_block ?_)))
       obtain rfl := Option.some.inj hF
       have ehr777 := hr777 _ rfl
       subst ehr777
       exact JQ.join () ⟨rfl, rfl, rfl, rfl, hs776, rfl⟩
     ·rintro _ H739 f bs gs ⟨hf1, hf7, rfl, rfl, hs739, rfl⟩
      have hF := hKr740
      try dsimp only at hF
      refine (JQ.norm (i := 1) hf1 (JQ.norm (i := 7) hf7 ?_))
      refine JQ.go (JC.seq (JC.region (by rfl) ?_))
      intro hQ
      refine JL.loadOwn 0 az_28 rfl rfl rfl .none rfl ?_
      obtain ⟨y794, hy794, hF⟩ := bind_some hF
      refine JL.callS (c_seams_Closest n H739 f_ f__v0 (SL.mono R_Bolt_mono (HSub.trans hs303 (HSub.trans hs545 (HSub.trans hs616 hs739))) hf__0) f__v1 (SL.mono RInt.mono (HSub.trans hs303 (HSub.trans hs545 (HSub.trans hs616 hs739))) hf__1) f__v3 (SL.mono R_Span_mono (HSub.trans hs303 (HSub.trans hs545 (HSub.trans hs616 hs739))) hf__3) f__v4 (SL.mono RInt.mono (HSub.trans hs303 (HSub.trans hs545 (HSub.trans hs616 hs739))) hf__4) f__v9 (SL.mono RInt.mono (HSub.trans hs303 (HSub.trans hs545 (HSub.trans hs616 hs739))) hf__9) f__v10 (SL.mono RInt.mono (HSub.trans hs303 (HSub.trans hs545 (HSub.trans hs616 hs739))) hf__10) y794 hy794) rfl en_17 .none rfl ?_
      refine JL.move .none rfl ?_
      refine JL.extract rfl rfl .none rfl ?_
      refine JL.extract rfl rfl .none rfl ?_
      refine JL.assign .none rfl ?_
      refine JL.assign .none rfl ?_
      refine JL.done hQ (JQ.go (JC.seq (JC.region (by rfl) ?_)))
      intro hQ
      refine JL.move .none rfl ?_
      refine JL.bin rfl rfl rfl .none rfl ?_
      refine JL.move .none rfl ?_
      obtain ⟨p796, hp796, hF⟩ := bind_some hF
      refine JL.cut 9 (fun f => f 164 = .bool p796) ?_ ?_
      ·intro hJ797
       rcases ite_some hp796 with ⟨hc798, hF⟩ | ⟨hc798, hF⟩
       ·skip
        refine JL.move (.some rfl rfl rfl hc798) rfl ?_
        refine JL.bin rfl rfl rfl (.some rfl rfl rfl hc798) rfl ?_
        refine JL.move (.some rfl rfl rfl hc798) rfl ?_
        refine JL.fieldAddr fo_28_1 rfl (.some rfl rfl rfl hc798) rfl ?_
        refine JL.loadOwn 0 az_3 rfl rfl rfl (.some rfl rfl rfl hc798) rfl ?_
        obtain ⟨u799, hu799, hF⟩ := bind_some hF
        refine JL.div rfl rfl (nz_some hu799) rfl (.some rfl rfl rfl hc798) rfl ?_
        refine JL.bin rfl rfl rfl (.some rfl rfl rfl hc798) rfl ?_
        refine JL.eqBool ub_4 rfl rfl (.some rfl rfl rfl hc798) rfl ?_
        refine JL.pick_t (b := (y794.2 == 0)) rfl hc798 .none rfl ?_
        obtain rfl := Option.some.inj hF
        exact hJ797 _ (rfl)
       ·skip
        refine JL.skip (.bool rfl rfl rfl hc798) rfl ?_
        refine JL.skip (.bool rfl rfl rfl hc798) rfl ?_
        refine JL.skip (.bool rfl rfl rfl hc798) rfl ?_
        refine JL.skip (.bool rfl rfl rfl hc798) rfl ?_
        refine JL.skip (.bool rfl rfl rfl hc798) rfl ?_
        refine JL.skip (.bool rfl rfl rfl hc798) rfl ?_
        refine JL.skip (.bool rfl rfl rfl hc798) rfl ?_
        refine JL.skip (.bool rfl rfl rfl hc798) rfl ?_
        refine JL.pick_f (b := (y794.2 == 0)) rfl hc798 .none rfl ?_
        obtain rfl := Option.some.inj hF
        exact hJ797 _ (rfl)
      ·rintro f hf164
       refine (JL.norm (i := 164) hf164 ?_)
       refine JL.move .none rfl ?_
       obtain ⟨p801, hp801, hF⟩ := bind_some hF
       refine JL.cut 2 (fun f => f 167 = .bool p801) ?_ ?_
       ·intro hJ802
        rcases ite_some hp801 with ⟨hc803, hF⟩ | ⟨hc803, hF⟩
        ·skip
         obtain ⟨y804, hy804, hF⟩ := bind_some hF
         refine JL.callS (c_top_sewn n H739 y804 hy804) rfl en_11 (.some rfl rfl rfl hc803) rfl ?_
         refine JL.pick_t (b := p796) rfl hc803 .none rfl ?_
         obtain rfl := Option.some.inj hF
         exact hJ802 _ (rfl)
        ·skip
         refine JL.skip (.bool rfl rfl rfl hc803) rfl ?_
         refine JL.pick_f (b := p796) rfl hc803 .none rfl ?_
         obtain rfl := Option.some.inj hF
         exact hJ802 _ (rfl)
       ·rintro f hf167
        refine (JL.norm (i := 167) hf167 ?_)
        refine JL.assign .none rfl ?_
        refine JL.done hQ (JQ.go (JC.ret ?_))
        obtain rfl := Option.some.inj hF
        exact JQ.outS rfl (.tmp .nil) rfl
end Go.Proofs.Yteihdclpiekmaaa
end
section
namespace Go.Proofs.Yteihdclpiekmaaa
open Go Go.RowKit Go.Dec
/-- each bolt has one number -/
def Single (d : Dome) : Prop := ∀ b ∈ d.Bolts, (numL b).length = 1
theorem Single.known {d : Dome} (h : Single d) : Known d := fun b hb e => by have := h b hb; rw [e] at this; cases this
theorem kok1 {x : Int} (h : -9223372036854775808 ≤ x ∧ x ≤ 9223372036854775807) : kok 1 [x] = some () := kok_ok ⟨rfl, fun y hy => by rw [List.mem_singleton.1 hy]; exact h⟩
theorem fold_rep (P : List Int → Int) (k : List Int) : ∀ (c : Nat) (s : Int), (List.replicate c k).foldl (fun s x => s + P x) s = s + (c : Int) * P k
  | 0, s => by simp
  | c + 1, s => by
    rw [List.replicate_succ, List.foldl_cons, fold_rep P k c]
    have : ((c + 1 : Nat) : Int) * P k = (c : Int) * P k + P k := by rw [Int.natCast_add, Int.add_mul]; simp
    omega
theorem fold_expand (P : List Int → Int) : ∀ (T : Mp) (s : Int), (∀ p ∈ T, 0 < p.2) → (expand T).foldl (fun s x => s + P x) s = T.foldl (fun s p => s + p.2 * P p.1) s
  | [], s, _ => rfl
  | p :: T, s, h => by
    have hp := h p (List.mem_cons_self ..)
    rw [expand_cons, List.foldl_append, fold_rep, List.foldl_cons, fold_expand P T _ fun q hq => h q (List.mem_cons_of_mem _ hq)]
    have : ((p.2.toNat : Nat) : Int) = p.2 := by omega
    rw [this]
theorem fold_RM (P : List Int → Int) {L : List (List Int)} {T : Mp} (h : RM L T) (s : Int) : T.foldl (fun s p => s + p.2 * P p.1) s = L.foldl (fun s x => s + P x) s := by
  rw [← fold_expand P T s h.pos]
  exact foldl_perm (fun b x y => by omega) h.perm s
theorem permO_one {S : Type} {step : S → List Int × Int → Option S} {s r : S} {x : List Int × Int} (h : step s x = some r) : permO step s [x] = some r := by
  refine permO_of fun l hl => ?_
  rw [List.perm_singleton.1 hl]
  show (step s x).bind (fun s' => foldP step s' []) = some r
  rw [h]; rfl
theorem len_le {L : List (List Int)} {T : Mp} (h : RM L T) : T.length ≤ L.length ∧ ∀ p ∈ T, p.2 ≤ L.length := by
  have h1 := h.total
  have key : ∀ T : Mp, (∀ p ∈ T, 0 < p.2) → (T.length : Int) ≤ (T.map (·.2)).sum ∧ ∀ p ∈ T, p.2 ≤ (T.map (·.2)).sum := by
    intro T
    induction T with
    | nil => intro _; simp
    | cons q T ih =>
      intro hp
      have hq := hp q (List.mem_cons_self ..)
      obtain ⟨i1, i2⟩ := ih fun x hx => hp x (List.mem_cons_of_mem _ hx)
      have hs : 0 ≤ (T.map (·.2)).sum := by omega
      rw [List.map_cons, List.sum_cons]
      refine ⟨by rw [List.length_cons]; omega, fun p hpm => ?_⟩
      rcases List.mem_cons.1 hpm with rfl | hpm
      · omega
      · have := i2 p hpm; omega
  obtain ⟨k1, k2⟩ := key T h.pos
  rw [h1] at k1 k2
  exact ⟨by omega, k2⟩
section
variable {n : Nat} (hn : 200000000 ≤ n)
include hn
theorem p_gores {d : Dome} (h : VD d) : ∃ T, loopO n (F_cloth_tent_sums_s1 n ⟨d, d.Bolts.map numL⟩) (0, ([] : Mp)) = some T ∧ RM (d.Gores.map fun g => [g]) T := by
  have hng := h.ng; have hnb := h.nb
  have hl := loop_fold (step := F_cloth_tent_sums_s1 n ⟨d, d.Bolts.map numL⟩) d.Gores (fun i (m : Mp) => ((i : Int), m)) (fun m g => mput m [g] (mget m [g] + 1)) (fun m => m) (fun i m => RM ((d.Gores.take i).map fun g => [g]) m) (n := n) [] RM.nil (fun i g m hg hI => by
    have hi : i < d.Gores.length := (List.getElem?_eq_some_iff.1 hg).1
    have hgb := h.g g (List.mem_of_getElem? hg)
    have hc : mget m [g] ≤ 16 ∧ 0 ≤ mget m [g] := by
      rw [hI.get]
      have := List.count_le_length (a := [g]) (l := (d.Gores.take i).map fun g => [g])
      rw [List.length_map, List.length_take] at this
      omega
    have ht : (d.Gores.take (i + 1)).map (fun g => [g]) = (d.Gores.take i).map (fun g => [g]) ++ List.replicate (1 : Int).toNat [g] := by
      rw [List.take_add_one, hg]; simp
    refine ⟨?_, by rw [ht]; exact hI.add [g] (by omega)⟩
    simp only [F_cloth_tent_sums_s1, lt_nat, hi, decide_true, if_true, geti_nat, hg, Option.bind_some, kok1 (x := g) (by omega), w64_nat (show i ≤ 4611686018427387904 by omega), w64_id (show -9223372036854775808 ≤ mget m [g] + 1 by omega) (show mget m [g] + 1 ≤ 9223372036854775807 by omega)]) (fun m hI => by
    simp [F_cloth_tent_sums_s1]) (by omega)
  have h2 := hl.2
  rw [List.take_length] at h2
  exact ⟨_, hl.1, h2⟩
theorem p_sums {d : Dome} (h : VD d) (hs : Single d) {w : Int} (hw : 2 * d.Loss ≤ w ∧ w ≤ 2000) : F_cloth_tent_sums n ⟨d, d.Bolts.map numL⟩ w = some [([pickS d w (fun l => l.headD 0)], 1)] := by
  have hng := h.ng; have hnb := h.nb; have hlo := h.l
  obtain ⟨T, hT, hR⟩ := p_gores hn h
  obtain ⟨hl1, hl2⟩ := len_le hR
  rw [List.length_map] at hl1 hl2
  obtain ⟨P, hP⟩ : ∃ P : List Int → Int, P = fun k => pullS (w - 2 * d.Loss) (((d.Bolts.map numL)[(k.headD 0).toNat]?.getD []).headD 0) := ⟨_, rfl⟩
  have hPb : ∀ g ∈ d.Gores, 0 ≤ P [g] ∧ P [g] ≤ 2120 := fun g hg => by
    obtain ⟨b, hb, g1, g2, g3, _⟩ := gore_get h hs.known hg
    have hbs := (h.b b hb).s
    have hm : ∃ x, (numL b).headD 0 = x ∧ x ∈ numL b := by
      cases hl : numL b with
      | nil => exact absurd hl g3
      | cons a l => exact ⟨a, rfl, List.mem_cons_self ..⟩
    obtain ⟨x, hx, hxm⟩ := hm
    have := num_mem hxm
    rw [hP]
    simp only [List.headD_cons, g2, hx]
    exact (pull_in (by omega) (by omega) (by omega) (by omega)).2
  -- one entry of the gores
  have hstep : ∀ (g c s : Int), ([g], c) ∈ T → 0 ≤ s → s ≤ 1000000000 → F_cloth_tent_sums_s2 n ⟨d, d.Bolts.map numL⟩ w [([s], 1)] ([g], c) = some [([s + c * P [g]], 1)] := fun g c s hm h0 h1 => by
    have hgm : g ∈ d.Gores := by
      have := (hR.mem.1 hm).2
      obtain ⟨x, hx, e⟩ := List.mem_map.1 this
      have : x = g := by simpa using e
      rw [← this]; exact hx
    obtain ⟨b, hb, g1, g2, g3, _⟩ := gore_get h hs.known hgm
    have hlen := hs b hb
    have hbs := (h.b b hb).s
    have hc := hl2 _ hm
    have hcp := hR.pos _ hm
    simp only at hc hcp
    have hPg := hPb g hgm
    obtain ⟨x, hx⟩ : ∃ x, numL b = [x] := List.length_eq_one_iff.1 hlen
    have hxm := num_mem (show x ∈ numL b by rw [hx]; simp)
    have hPx : P [g] = pullS (w - 2 * d.Loss) x := by rw [hP]; simp only [List.headD_cons, g2, hx]
    have ew : w64 (w - w64 (2 * d.Loss)) = w - 2 * d.Loss := by rw [w64_id (n := 2 * d.Loss) (by omega) (by omega)]; exact w64_id (by omega) (by omega)
    have hm1 : c * P [g] ≤ 16 * 2120 := Int.mul_le_mul (by omega) hPg.2 hPg.1 (by omega)
    have hm0 : 0 ≤ c * P [g] := Int.mul_nonneg (by omega) hPg.1
    have hloop : loopO n (F_cloth_tent_sums_s4 n ⟨d, d.Bolts.map numL⟩ w c s [x]) (0, ([] : Mp)) = some [([s + c * P [g]], 1)] := by
      have key := loop_run (step := F_cloth_tent_sums_s4 n ⟨d, d.Bolts.map numL⟩ w c s [x]) (fun j => if j = 0 then ((0 : Int), ([] : Mp)) else ((1 : Int), [([s + c * P [g]], 1)])) (r := [([s + c * P [g]], 1)]) 1 0 n (fun j _ hj => by
        obtain rfl : j = 0 := by omega
        have hg0 : geti [x] 0 = some x := rfl
        have hw1 : w64 (0 + 1) = 1 := by decide
        simp only [F_cloth_tent_sums_s4, List.length_singleton, if_true, hg0, Option.bind_some, F_cloth_pull, ew, pull_eq (show 0 ≤ w - 2 * d.Loss by omega) (show w - 2 * d.Loss ≤ 2000 by omega) (show 0 ≤ x by omega) (by omega), ← hPx, w64_id (show -9223372036854775808 ≤ c * P [g] by omega) (show c * P [g] ≤ 9223372036854775807 by omega), w64_id (show -9223372036854775808 ≤ s + c * P [g] by omega) (show s + c * P [g] ≤ 9223372036854775807 by omega), kok1 (x := s + c * P [g]) (by omega), hw1]
        rfl) (by simp [F_cloth_tent_sums_s4]) (by omega)
      simpa using key
    have hin : permO (F_cloth_tent_sums_s3 n ⟨d, d.Bolts.map numL⟩ w c g) ([] : Mp) [([s], 1)] = some [([s + c * P [g]], 1)] := permO_one (by
      simp only [F_cloth_tent_sums_s3, g1, hx, Option.bind_some, hloop])
    simp only [F_cloth_tent_sums_s2, hin, Option.bind_some]
  have hfold : ∀ (l : Mp) (s : Int), (∀ p ∈ l, p ∈ T) → 0 ≤ s → s + l.length * 33920 ≤ 1000000000 → foldP (F_cloth_tent_sums_s2 n ⟨d, d.Bolts.map numL⟩ w) [([s], 1)] l = some [([l.foldl (fun s p => s + p.2 * P p.1) s], 1)] := by
    intro l
    induction l with
    | nil => intro s _ _ _; rfl
    | cons p l ih =>
      intro s hp h0 h1
      have hpm := hp p (List.mem_cons_self ..)
      obtain ⟨k, c⟩ := p
      have hk := (hR.mem.1 hpm).2
      obtain ⟨g, hg, rfl⟩ := List.mem_map.1 hk
      have hc := hl2 _ hpm
      have hcp := hR.pos _ hpm
      simp only at hc hcp
      have hPg := hPb g hg
      have hm1 : c * P [g] ≤ 16 * 2120 := Int.mul_le_mul (by omega) hPg.2 hPg.1 (by omega)
      have hm0 : 0 ≤ c * P [g] := Int.mul_nonneg (by omega) hPg.1
      rw [List.length_cons] at h1
      show (F_cloth_tent_sums_s2 n ⟨d, d.Bolts.map numL⟩ w [([s], 1)] ([g], c)).bind _ = _
      rw [hstep g c s hpm h0 (by omega)]
      show foldP _ [([s + c * P [g]], 1)] l = _
      rw [ih (s + c * P [g]) (fun q hq => hp q (List.mem_cons_of_mem _ hq)) (by omega) (by omega), List.foldl_cons]
  have hall : permO (F_cloth_tent_sums_s2 n ⟨d, d.Bolts.map numL⟩ w) [([0], 1)] T = some [([pickS d w (fun l => l.headD 0)], 1)] := by
    refine permO_of fun l hl => ?_
    rw [hfold l 0 (fun p hp => hl.mem_iff.1 hp) (by omega) (by have := hl.length_eq; omega)]
    have e1 : l.foldl (fun s p => s + p.2 * P p.1) 0 = T.foldl (fun s p => s + p.2 * P p.1) 0 := foldl_perm (fun b x y => by omega) hl 0
    rw [e1, fold_RM P hR 0, List.foldl_map]
    unfold pickS
    rw [hP]
    simp only [List.headD_cons]
  have hk0 : kok 1 [0] = some () := kok1 (by omega)
  simp only [F_cloth_tent_sums, hT, hk0, Option.bind_some]
  have e : mput ([] : Mp) [0] 1 = [([0], 1)] := rfl
  rw [e, hall]; rfl
theorem p_tight {d : Dome} (h : VD d) (hs : Single d) {i : Nat} {w : Int} (hi : d.Widths[i]? = some w) : ∃ r, F_cloth_Tight n d (i : Int) = some (r, 0) ∧ (r = 1 ∨ r = 2) := by
  have hil := (List.getElem?_eq_some_iff.1 hi).1
  have hnw := h.nw; have hnr := h.nr
  have hr : d.Rounds[i]? = some (d.Rounds[i]'(by omega)) := List.getElem?_eq_getElem (by omega)
  have hsame : pickS d w (fun l => l.getLastD 0) = pickS d w (fun l => l.headD 0) := by
    unfold pickS
    have key : ∀ (l : List Int) (s : Int), (∀ g ∈ l, g ∈ d.Gores) → l.foldl (fun s g => s + pullS (w - 2 * d.Loss) (((d.Bolts.map numL)[g.toNat]?.getD []).getLastD 0)) s = l.foldl (fun s g => s + pullS (w - 2 * d.Loss) (((d.Bolts.map numL)[g.toNat]?.getD []).headD 0)) s := by
      intro l
      induction l with
      | nil => intro s _; rfl
      | cons a l ih =>
        intro s hm
        obtain ⟨b, hb, _, g2, _, _⟩ := gore_get h hs.known (hm a (List.mem_cons_self ..))
        obtain ⟨x, hx⟩ : ∃ x, numL b = [x] := List.length_eq_one_iff.1 (hs b hb)
        rw [List.foldl_cons, List.foldl_cons, g2, hx]
        exact ih _ fun g hg => hm g (List.mem_cons_of_mem _ hg)
    exact key _ _ fun g hg => hg
  simp only [F_cloth_Tight, F_cloth_isRow]
  rw [w64_id (by omega) (by omega), c_within n (by omega)]
  simp only [Option.bind_some, p_pitch hn h hs.known, bne_self_eq_false, Bool.false_eq_true, if_false, geti_nat, hi, F_cloth_tent_tight, hr, p_round hn h hs.known (h.w w (List.mem_of_getElem? hi)), p_sums hn h hs (h.w w (List.mem_of_getElem? hi)), hsame]
  by_cases hc : ((decide ((d.Rounds[i]'(by omega)).Low ≤ pickS d w (fun l => l.headD 0))) && (decide (pickS d w (fun l => l.headD 0) ≤ (d.Rounds[i]'(by omega)).High))) = true
  · rw [if_pos hc]; exact ⟨1, rfl, .inl rfl⟩
  · rw [if_neg hc]
    have hp : permO (F_cloth_tent_tight_s1 n (d.Rounds[i]'(by omega))) false [([pickS d w (fun l => l.headD 0)], 1)] = some false := permO_one (by
      simp only [F_cloth_tent_tight_s1, F_cloth_within, Option.bind_some]
      rw [if_neg hc])
    rw [hp]
    exact ⟨2, rfl, .inr rfl⟩
theorem p_Round1 {d : Dome} (h : VD d) (hs : Single d) {i : Nat} {w : Int} (hi : d.Widths[i]? = some w) : ∃ s, F_cloth_Round n d (i : Int) = some (⟨s, s⟩, 0) := by
  refine ⟨pickS d w (fun l => l.headD 0), ?_⟩
  rw [p_Round hn h hs.known hi]
  congr 3
  unfold pickS
  have key : ∀ (l : List Int) (s : Int), (∀ g ∈ l, g ∈ d.Gores) → l.foldl (fun s g => s + pullS (w - 2 * d.Loss) (((d.Bolts.map numL)[g.toNat]?.getD []).getLastD 0)) s = l.foldl (fun s g => s + pullS (w - 2 * d.Loss) (((d.Bolts.map numL)[g.toNat]?.getD []).headD 0)) s := by
    intro l
    induction l with
    | nil => intro s _; rfl
    | cons a l ih =>
      intro s hm
      obtain ⟨b, hb, _, g2, _, _⟩ := gore_get h hs.known (hm a (List.mem_cons_self ..))
      obtain ⟨x, hx⟩ : ∃ x, numL b = [x] := List.length_eq_one_iff.1 (hs b hb)
      rw [List.foldl_cons, List.foldl_cons, g2, hx]
      exact ih _ fun g hg => hm g (List.mem_cons_of_mem _ hg)
  exact key _ _ fun g hg => hg
end
end Go.Proofs.Yteihdclpiekmaaa
end
