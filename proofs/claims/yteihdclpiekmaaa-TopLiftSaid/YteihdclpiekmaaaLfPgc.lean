/-
  Gusts, plain: what is valid, the lift, the two cases, what the program answers.
-/
import Derived.Test.YteihdclpiekmaaaLfPgb
namespace Go.Proofs.Yteihdclpiekmaaa
open Go Go.RowKit Go.Dec
set_option linter.unusedVariables false

section
variable {n : Nat} (hn : 100000000 ≤ n)
include hn
theorem p_ContainsSpan (s : List Span) (f : Span → Option Bool) (p : Span → Bool) (hf : ∀ x, x ∈ s → f x = some (p x)) (hs : s.length ≤ 1000) : F_slices_ContainsFunc___api_Span_api_Span_ n s f = some (s.any p) := by
  have : ∃ k, F_slices_IndexFunc___api_Span_api_Span_ n s f = some k ∧ decide (0 ≤ k) = s.any p := by
    by_cases h : s.any p = true
    · have : ∃ i : Nat, ∃ x, s[i]? = some x ∧ p x = true ∧ ∀ (j : Nat) y, j < i → s[j]? = some y → p y = false := first_of h
      obtain ⟨i, x, h1, h2, h3⟩ := this
      have hil := (List.getElem?_eq_some_iff.1 h1).1
      refine ⟨i, ?_, by rw [h]; simp⟩
      have := loop_run (step := F_slices_IndexFunc___api_Span_api_Span__s1 n s f) (fun j => (j : Int)) (r := .inl (i : Int)) i 0 n (fun j _ hj => ?_) ?_ (by omega)
      · unfold F_slices_IndexFunc___api_Span_api_Span_
        simp only [Int.natCast_zero] at this
        rw [this]; rfl
      · have hj' : j < s.length := by omega
        have e : s[j]? = some s[j] := List.getElem?_eq_getElem hj'
        simp only [F_slices_IndexFunc___api_Span_api_Span__s1, geti_nat, e, Option.bind_some, hf _ (List.getElem_mem hj'), h3 j _ (by omega) e, lt_nat, hj', decide_true, if_true, Bool.false_eq_true, if_false, w64_nat (show j ≤ 4611686018427387904 by omega)]
      · simp only [Nat.zero_add, F_slices_IndexFunc___api_Span_api_Span__s1, geti_nat, h1, Option.bind_some, hf _ (List.mem_of_getElem? h1), h2, lt_nat, hil, decide_true, if_true]
    · have hno : ∀ x ∈ s, p x = false := fun x hx => by
        cases hp : p x with
        | false => rfl
        | true => exact absurd (List.any_eq_true.2 ⟨x, hx, hp⟩) h
      refine ⟨-1, ?_, by simp only [Bool.not_eq_true] at h; rw [h]; rfl⟩
      have := loop_all_l (step := F_slices_IndexFunc___api_Span_api_Span__s1 n s f) s (fun _ => true) (0 : Int) (n := n) (by omega) (fun i x hx hi => ?_) ?_ (by omega)
      · unfold F_slices_IndexFunc___api_Span_api_Span_; rw [this, show (s.all fun _ => true) = true by simp]; rfl
      · simp only [F_slices_IndexFunc___api_Span_api_Span__s1, geti_nat, hx, Option.bind_some, hf _ (List.mem_of_getElem? hx), hno _ (List.mem_of_getElem? hx), lt_nat, hi, decide_true, if_true, cond_true, Bool.false_eq_true, if_false, w64_nat (show i ≤ 4611686018427387904 by omega)]
      · simp [F_slices_IndexFunc___api_Span_api_Span__s1]
  obtain ⟨k, h1, h2⟩ := this
  simp only [F_slices_ContainsFunc___api_Span_api_Span_, h1, Option.bind_some, h2]
theorem p_ContainsInt (s : List Int) (f : Int → Option Bool) (p : Int → Bool) (hf : ∀ x, x ∈ s → f x = some (p x)) (hs : s.length ≤ 1000) : F_slices_ContainsFunc___int_int_ n s f = some (s.any p) := by
  have : ∃ k, F_slices_IndexFunc___int_int_ n s f = some k ∧ decide (0 ≤ k) = s.any p := by
    by_cases h : s.any p = true
    · have : ∃ i : Nat, ∃ x, s[i]? = some x ∧ p x = true ∧ ∀ (j : Nat) y, j < i → s[j]? = some y → p y = false := first_of h
      obtain ⟨i, x, h1, h2, h3⟩ := this
      have hil := (List.getElem?_eq_some_iff.1 h1).1
      refine ⟨i, ?_, by rw [h]; simp⟩
      have := loop_run (step := F_slices_IndexFunc___int_int__s1 n s f) (fun j => (j : Int)) (r := .inl (i : Int)) i 0 n (fun j _ hj => ?_) ?_ (by omega)
      · unfold F_slices_IndexFunc___int_int_
        simp only [Int.natCast_zero] at this
        rw [this]; rfl
      · have hj' : j < s.length := by omega
        have e : s[j]? = some s[j] := List.getElem?_eq_getElem hj'
        simp only [F_slices_IndexFunc___int_int__s1, geti_nat, e, Option.bind_some, hf _ (List.getElem_mem hj'), h3 j _ (by omega) e, lt_nat, hj', decide_true, if_true, Bool.false_eq_true, if_false, w64_nat (show j ≤ 4611686018427387904 by omega)]
      · simp only [Nat.zero_add, F_slices_IndexFunc___int_int__s1, geti_nat, h1, Option.bind_some, hf _ (List.mem_of_getElem? h1), h2, lt_nat, hil, decide_true, if_true]
    · have hno : ∀ x ∈ s, p x = false := fun x hx => by
        cases hp : p x with
        | false => rfl
        | true => exact absurd (List.any_eq_true.2 ⟨x, hx, hp⟩) h
      refine ⟨-1, ?_, by simp only [Bool.not_eq_true] at h; rw [h]; rfl⟩
      have := loop_all_l (step := F_slices_IndexFunc___int_int__s1 n s f) s (fun _ => true) (0 : Int) (n := n) (by omega) (fun i x hx hi => ?_) ?_ (by omega)
      · unfold F_slices_IndexFunc___int_int_; rw [this, show (s.all fun _ => true) = true by simp]; rfl
      · simp only [F_slices_IndexFunc___int_int__s1, geti_nat, hx, Option.bind_some, hf _ (List.mem_of_getElem? hx), hno _ (List.mem_of_getElem? hx), lt_nat, hi, decide_true, if_true, cond_true, Bool.false_eq_true, if_false, w64_nat (show i ≤ 4611686018427387904 by omega)]
      · simp [F_slices_IndexFunc___int_int__s1]
  obtain ⟨k, h1, h2⟩ := this
  simp only [F_slices_ContainsFunc___int_int_, h1, Option.bind_some, h2]
theorem p_ContainsGust (s : List Gust) (f : Gust → Option Bool) (p : Gust → Bool) (hf : ∀ x, x ∈ s → f x = some (p x)) (hs : s.length ≤ 1000) : F_slices_ContainsFunc___api_Gust_api_Gust_ n s f = some (s.any p) := by
  have : ∃ k, F_slices_IndexFunc___api_Gust_api_Gust_ n s f = some k ∧ decide (0 ≤ k) = s.any p := by
    by_cases h : s.any p = true
    · have : ∃ i : Nat, ∃ x, s[i]? = some x ∧ p x = true ∧ ∀ (j : Nat) y, j < i → s[j]? = some y → p y = false := first_of h
      obtain ⟨i, x, h1, h2, h3⟩ := this
      have hil := (List.getElem?_eq_some_iff.1 h1).1
      refine ⟨i, ?_, by rw [h]; simp⟩
      have := loop_run (step := F_slices_IndexFunc___api_Gust_api_Gust__s1 n s f) (fun j => (j : Int)) (r := .inl (i : Int)) i 0 n (fun j _ hj => ?_) ?_ (by omega)
      · unfold F_slices_IndexFunc___api_Gust_api_Gust_
        simp only [Int.natCast_zero] at this
        rw [this]; rfl
      · have hj' : j < s.length := by omega
        have e : s[j]? = some s[j] := List.getElem?_eq_getElem hj'
        simp only [F_slices_IndexFunc___api_Gust_api_Gust__s1, geti_nat, e, Option.bind_some, hf _ (List.getElem_mem hj'), h3 j _ (by omega) e, lt_nat, hj', decide_true, if_true, Bool.false_eq_true, if_false, w64_nat (show j ≤ 4611686018427387904 by omega)]
      · simp only [Nat.zero_add, F_slices_IndexFunc___api_Gust_api_Gust__s1, geti_nat, h1, Option.bind_some, hf _ (List.mem_of_getElem? h1), h2, lt_nat, hil, decide_true, if_true]
    · have hno : ∀ x ∈ s, p x = false := fun x hx => by
        cases hp : p x with
        | false => rfl
        | true => exact absurd (List.any_eq_true.2 ⟨x, hx, hp⟩) h
      refine ⟨-1, ?_, by simp only [Bool.not_eq_true] at h; rw [h]; rfl⟩
      have := loop_all_l (step := F_slices_IndexFunc___api_Gust_api_Gust__s1 n s f) s (fun _ => true) (0 : Int) (n := n) (by omega) (fun i x hx hi => ?_) ?_ (by omega)
      · unfold F_slices_IndexFunc___api_Gust_api_Gust_; rw [this, show (s.all fun _ => true) = true by simp]; rfl
      · simp only [F_slices_IndexFunc___api_Gust_api_Gust__s1, geti_nat, hx, Option.bind_some, hf _ (List.mem_of_getElem? hx), hno _ (List.mem_of_getElem? hx), lt_nat, hi, decide_true, if_true, cond_true, Bool.false_eq_true, if_false, w64_nat (show i ≤ 4611686018427387904 by omega)]
      · simp [F_slices_IndexFunc___api_Gust_api_Gust__s1]
  obtain ⟨k, h1, h2⟩ := this
  simp only [F_slices_ContainsFunc___api_Gust_api_Gust_, h1, Option.bind_some, h2]

end
def okRib (s : Span) : Bool := wi s.Low 0 s.High && decide (s.High ≤ 99999)
def okSh (x : Int) : Bool := wi x 0 99
def okD (d : Canopy) : Bool := okF d.Frame && wi d.Ribs.length 3 10 && ((d.Shares.length : Int) == (d.Ribs.length : Int)) && d.Ribs.all okRib && d.Shares.all okSh
def okGust (d : Canopy) (g : Gust) : Bool := wi g.Force 0 99 && wi g.At 0 ((d.Ribs.length : Int) - 1)
structure DOk (d : Canopy) : Prop where
  f : FOk d.Frame
  r : 3 ≤ d.Ribs.length ∧ d.Ribs.length ≤ 10
  s : d.Shares.length = d.Ribs.length
  ribs : ∀ s ∈ d.Ribs, 0 ≤ s.Low ∧ s.Low ≤ s.High ∧ s.High ≤ 99999
  sh : ∀ x ∈ d.Shares, 0 ≤ x ∧ x ≤ 99
theorem okD_iff {d : Canopy} : okD d = true ↔ DOk d := by
  simp only [okD, Bool.and_eq_true, okF_iff, wi_t, beq_iff_eq, List.all_eq_true, okRib, okSh, decide_eq_true_eq]
  constructor
  · rintro ⟨⟨⟨⟨h1, h2⟩, h3⟩, h4⟩, h5⟩
    exact ⟨h1, by omega, by omega, fun s hs => by have := h4 s hs; omega, h5⟩
  · rintro ⟨h1, h2, h3, h4, h5⟩
    exact ⟨⟨⟨⟨h1, by omega⟩, by omega⟩, fun s hs => by have := h4 s hs; omega⟩, h5⟩
def Small (d : Canopy) : Prop := d.Frame.Sections.length ≤ 1000 ∧ d.Ribs.length ≤ 1000 ∧ d.Shares.length ≤ 1000
theorem DOk.small {d : Canopy} (h : DOk d) : Small d := by
  have := h.r; have := h.s; have := h.f.n
  exact ⟨by omega, by omega, by omega⟩
def askG (d : Canopy) (l : List Gust) : Int := if okD d = true then (if (decide (l.length ≤ 20) && l.all (okGust d)) = true then 0 else 1) else 50
theorem okGust_iff {d : Canopy} {g : Gust} : okGust d g = true ↔ GOk d.Ribs.length g := by
  simp only [okGust, Bool.and_eq_true, wi_t]
  constructor
  · rintro ⟨h1, h2⟩; exact ⟨h1, by omega⟩
  · rintro ⟨h1, h2⟩; exact ⟨h1, by omega⟩
theorem askG_ok {d : Canopy} {l : List Gust} : askG d l = 0 ↔ DOk d ∧ l.length ≤ 20 ∧ ∀ g ∈ l, GOk d.Ribs.length g := by
  unfold askG
  by_cases h : okD d = true
  · rw [if_pos h]
    by_cases h2 : (decide (l.length ≤ 20) && l.all (okGust d)) = true
    · rw [if_pos h2]
      simp only [Bool.and_eq_true, decide_eq_true_eq, List.all_eq_true, okGust_iff] at h2
      exact ⟨fun _ => ⟨okD_iff.1 h, h2⟩, fun _ => rfl⟩
    · rw [if_neg h2]
      simp only [Bool.and_eq_true, decide_eq_true_eq, List.all_eq_true, okGust_iff] at h2
      exact ⟨fun h => by simp at h, fun h => absurd h.2 h2⟩
  · rw [if_neg h]
    exact ⟨fun h => by simp at h, fun h2 => absurd (okD_iff.2 h2.1) h⟩

/-! ### lifts -/
def ofL (c : Frac) : Int := min 200 (max 0 (100 + (100 * c.Num) / c.Den))
theorem ofL_in (c : Frac) : 0 ≤ ofL c ∧ ofL c ≤ 200 := by unfold ofL; omega
theorem floor_of {a b : Int} (hb : 0 < b) : (if a.tmod b < 0 then a.tdiv b - 1 else a.tdiv b) = a / b := by
  have h1 := Int.mul_tdiv_add_tmod a b
  have h2 := Int.tmod_lt_of_pos a hb
  have h3 : -b < a.tmod b := Int.lt_tmod_of_pos a hb
  split
  · have := (Int.ediv_emod_unique (a := a) (b := b) (q := a.tdiv b - 1) (r := a.tmod b + b) hb).2 ⟨by rw [Int.mul_sub, Int.mul_one]; omega, by omega, by omega⟩
    exact this.1.symm
  · have := (Int.ediv_emod_unique (a := a) (b := b) (q := a.tdiv b) (r := a.tmod b) hb).2 ⟨by omega, by omega, by omega⟩
    exact this.1.symm
theorem tdiv_abs {a b M : Int} (h1 : -M ≤ a) (h2 : a ≤ M) : -M ≤ a.tdiv b ∧ a.tdiv b ≤ M := by
  have h := Int.natAbs_tdiv a b
  have h3 := Nat.div_le_self a.natAbs b.natAbs
  have : (a.tdiv b).natAbs ≤ a.natAbs := by rw [h]; exact h3
  omega
theorem ofL_red {c : Frac} (h : 1 ≤ c.Den) : ofL (red c) = ofL c := by
  obtain ⟨g, h1, _, h3, h4, h5⟩ := red_spec h
  unfold ofL
  rw [h3, h4, show 100 * (g * (red c).Num) = g * (100 * (red c).Num) by rw [Int.mul_left_comm], Int.mul_ediv_mul_of_pos _ _ (by omega)]
theorem ofL_mono {x y : Frac} (hx : 1 ≤ x.Den) (hy : 1 ≤ y.Den) (h : ltF y x = false) : ofL x ≤ ofL y := by
  have h' : x.Num * y.Den ≤ y.Num * x.Den := by simp [ltF] at h; omega
  have key : 100 * x.Num / x.Den ≤ 100 * y.Num / y.Den := by
    rw [Int.le_ediv_iff_mul_le (by omega)]
    have h1 : (100 * x.Num / x.Den) * x.Den ≤ 100 * x.Num := Int.ediv_mul_le _ (by omega)
    have h2 : (100 * x.Num / x.Den) * x.Den * y.Den ≤ 100 * x.Num * y.Den := Int.mul_le_mul_of_nonneg_right h1 (by omega)
    have h3 : (100 * x.Num / x.Den) * y.Den * x.Den ≤ 100 * y.Num * x.Den := by
      rw [Int.mul_right_comm]
      refine Int.le_trans h2 ?_
      rw [Int.mul_assoc, Int.mul_assoc]; omega
    exact Int.le_of_mul_le_mul_right h3 (by omega)
  unfold ofL; omega
def liftAt (d : Canopy) (x : frames_sides) : Int := ofL (cosF d.Frame.Low x)
def liftS (d : Canopy) : Span := ⟨ofL (lowF d.Frame.Low (sidesL (secAt d.Frame 0))), ofL (highF d.Frame.Low (sidesL (secAt d.Frame 0)))⟩
theorem sec0 {d : Canopy} (hd : DOk d) : SecOk (secAt d.Frame 0) := hd.f.s _ (secAt_mem (by have := hd.f.n; omega))
theorem lift_spec {d : Canopy} (hd : DOk d) : (∀ x ∈ sidesL (secAt d.Frame 0), (liftS d).Low ≤ liftAt d x ∧ liftAt d x ≤ (liftS d).High) ∧ (∃ x ∈ sidesL (secAt d.Frame 0), liftAt d x = (liftS d).Low) ∧ (∃ x ∈ sidesL (secAt d.Frame 0), liftAt d x = (liftS d).High) := by
  have hl := hd.f.r
  have hs := sec0 hd
  have hd1 : 1 ≤ d.Frame.Low ∧ d.Frame.Low ≤ 6000 := by omega
  have hx : ∀ x ∈ sidesL (secAt d.Frame 0), XOk x := fun x hx => sides_ok hs hx
  have hne := sides_ne hs
  obtain ⟨⟨⟨a, ha, ea⟩, h1⟩, ⟨b, hb, eb⟩, h2⟩ := low_spec hd1 _ hx hne
  have hlo := low_ok hd1 _ hx hne
  refine ⟨fun x hxm => ⟨?_, ?_⟩, ⟨a, ha, ?_⟩, ⟨b, hb, ?_⟩⟩
  · exact ofL_mono hlo.1.1.1 (cos_ok hd1 (hx x hxm)).1.1.1 (h1 x hxm)
  · exact ofL_mono (cos_ok hd1 (hx x hxm)).1.1.1 hlo.2.1.1 (h2 x hxm)
  · show ofL _ = ofL _; rw [ea]
  · show ofL _ = ofL _; rw [eb]
theorem lift_in {d : Canopy} (hd : DOk d) : 0 ≤ (liftS d).Low ∧ (liftS d).Low ≤ (liftS d).High ∧ (liftS d).High ≤ 200 := by
  obtain ⟨h1, ⟨x, hx, e⟩, _⟩ := lift_spec hd
  have := h1 x hx
  have h2 : 0 ≤ (liftS d).Low := (ofL_in (lowF d.Frame.Low (sidesL (secAt d.Frame 0)))).1
  have h3 : (liftS d).High ≤ 200 := (ofL_in (highF d.Frame.Low (sidesL (secAt d.Frame 0)))).2
  exact ⟨h2, by omega, h3⟩
def bestB (d : Canopy) : gusts_blown := ⟨(liftS d).Low, d.Ribs.map (·.High), d.Shares⟩
def worstB (d : Canopy) : gusts_blown := ⟨(liftS d).High, d.Ribs.map (·.Low), d.Shares⟩
theorem best_ok {d : Canopy} (hd : DOk d) : BOk (bestB d) := by
  have := lift_in hd; have := hd.r
  exact ⟨by simpa [bestB] using hd.r, by simpa [bestB] using hd.s, by simp only [bestB]; omega, hd.sh⟩
theorem worst_ok {d : Canopy} (hd : DOk d) : BOk (worstB d) := by
  have := lift_in hd; have := hd.r
  exact ⟨by simpa [worstB] using hd.r, by simpa [worstB] using hd.s, by simp only [worstB]; omega, hd.sh⟩
/-! the loads and the strengths of the two cases, by rib -/
def ldB (d : Canopy) (g : Gust) : Nat → Int := loadS (liftS d).Low d.Shares g
def ldW (d : Canopy) (g : Gust) : Nat → Int := loadS (liftS d).High d.Shares g
def stB (d : Canopy) (i : Nat) : Int := ((d.Ribs.map (·.High))[i]?).getD 0
def stW (d : Canopy) (i : Nat) : Int := ((d.Ribs.map (·.Low))[i]?).getD 0
def sureP (d : Canopy) (g : Gust) : Nat → Bool := G (ldB d g) (stB d) d.Ribs.length d.Ribs.length
def mayP (d : Canopy) (g : Gust) : Nat → Bool := G (ldW d g) (stW d) d.Ribs.length d.Ribs.length
def firstP (d : Canopy) (g : Gust) : Nat → Bool := G (ldW d g) (stW d) d.Ribs.length 1
def firstB (d : Canopy) (g : Gust) : Nat → Bool := G (ldB d g) (stB d) d.Ribs.length 1
def noneP (N : Nat) (p : Nat → Bool) : Bool := (List.range N).all fun i => !p i
theorem noneP_iff {N : Nat} {p : Nat → Bool} : noneP N p = true ↔ ∀ i, i < N → p i = false := by simp [noneP]
theorem enc_none {N : Nat} {p : Nat → Bool} : (((enc N p : Nat) : Int) == 0) = noneP N p := by
  rw [Bool.eq_iff_iff, noneP_iff]
  simp only [beq_iff_eq]
  rw [show (0 : Int) = ((0 : Nat) : Int) from rfl, Int.natCast_inj]
  exact enc_zero
def liftT (d : Canopy) : Span × Int := if okD d = true then (liftS d, 0) else (⟨0, 0⟩, 50)
def loadsT (d : Canopy) (g : Gust) : List Span × Int := if askG d [g] = 0 then ((List.range d.Ribs.length).map fun i => ⟨ldB d g i, ldW d g i⟩, 0) else ([], askG d [g])
def goesT (d : Canopy) (g : Gust) : List Int × List Int × Int := if askG d [g] = 0 then (listS d.Ribs.length (sureP d g), listS d.Ribs.length (mayP d g), 0) else ([], [], askG d [g])
def standsI (d : Canopy) (l : List Gust) : Int := if (l.all fun g => noneP d.Ribs.length (firstP d g)) = true then 1 else if (l.all fun g => noneP d.Ribs.length (firstB d g)) = true then 3 else 2
def standsT (d : Canopy) (l : List Gust) : Int × Int := if askG d l = 0 then (standsI d l, 0) else (0, askG d l)
def firstE (d : Canopy) (l : List Gust) (i : Nat) : Option (Int × List Int × Int) := (l[i]?).bind fun g => if noneP d.Ribs.length (firstP d g) = true then none else some ((i : Int), listS d.Ribs.length (firstP d g), 0)
def firstG (d : Canopy) (l : List Gust) : Int × List Int × Int := if askG d l = 0 then (match (List.range l.length).findSome? (firstE d l) with | some r => r | none => (0, [], 3)) else (0, [], askG d l)
def standF (d : Canopy) (at_ : Int) (f : Nat) : Bool := noneP d.Ribs.length (firstP d ⟨f, at_⟩)
def mostS (d : Canopy) (at_ : Int) : Nat := (List.range 100).foldl (fun m f => if standF d at_ f = true then f else m) 0
def mostT (d : Canopy) (at_ : Int) : Int × Int := if askG d [⟨0, at_⟩] = 0 then ((mostS d at_ : Int), 0) else (0, askG d [⟨0, at_⟩])
def weakP (d : Canopy) (l : List Gust) (i : Nat) : Bool := l.any fun g => firstP d g i
def weakT (d : Canopy) (l : List Gust) : List Int × Int := if askG d l = 0 then (listS d.Ribs.length (weakP d l), 0) else ([], askG d l)

section
variable {n : Nat} (hn : 100000000 ≤ n)
include hn
theorem p_gCheck {d : Canopy} (hs : Small d) : F_gusts_Check n d = some (if okD d = true then 0 else 50) := by
  have c1 := p_ContainsSpan hn d.Ribs (fun a0_ => F_gusts_Check_1 n a0_) (fun s => !okRib s) (fun s _ => by
    show some ((!wi s.Low 0 s.High) || decide (99999 < s.High)) = _
    have : decide (99999 < s.High) = !decide (s.High ≤ 99999) := by rw [← decide_not]; congr 1; simp
    rw [this, okRib, Bool.not_and]) hs.2.1
  have c2 := p_ContainsInt hn d.Shares (fun a0_ => F_gusts_Check_2 n a0_) (fun s => !okSh s) (fun s _ => rfl) hs.2.2
  have e1 : (d.Ribs.any fun s => !okRib s) = !d.Ribs.all okRib := by simp [List.any_eq_not_all_not]
  have e2 : (d.Shares.any fun s => !okSh s) = !d.Shares.all okSh := by simp [List.any_eq_not_all_not]
  have e3 : ((if okF d.Frame = true then (0 : Int) else 10) != 0) = !okF d.Frame := by cases okF d.Frame <;> rfl
  have ew : ∀ a b c, F_gusts_within n a b c = some (wi a b c) := fun _ _ _ => rfl
  simp only [F_gusts_Check, p_Check hn hs.1, Option.bind_some, e3, ew, or_br, c1, c2, e1, e2]
  have e4 : ((d.Shares.length : Int) != (d.Ribs.length : Int)) = !((d.Shares.length : Int) == (d.Ribs.length : Int)) := rfl
  have e : ((((!okF d.Frame || !wi (↑d.Ribs.length) 3 10) || !((d.Shares.length : Int) == (d.Ribs.length : Int))) || !d.Ribs.all okRib) || !d.Shares.all okSh) = !okD d := by
    simp only [okD, Bool.not_and]
  rw [e4, e]
  cases okD d <;> rfl
theorem p_gask {d : Canopy} (hs : Small d) {l : List Gust} (hl : l.length ≤ 1000) : F_gusts_ask n d l = some (askG d l) := by
  have ew : ∀ a b c, F_gusts_within n a b c = some (wi a b c) := fun _ _ _ => rfl
  have c := p_ContainsGust hn l (fun a0_ => F_gusts_ask_1 n a0_ d) (fun g => !okGust d g) (fun g _ => by
    simp only [F_gusts_ask_1, ew, Option.bind_some, or_br, okGust, Bool.not_and]
    rw [w64_id (by have := hs.2.1; omega) (by have := hs.2.1; omega)]) hl
  have e1 : (l.any fun g => !okGust d g) = !l.all (okGust d) := by simp [List.any_eq_not_all_not]
  simp only [F_gusts_ask, p_gCheck hn hs, Option.bind_some, c, e1, or_br, askG]
  cases okD d
  · rfl
  · simp only [if_true, bne_self_eq_false, Bool.false_eq_true, if_false]
    have e2 : (decide (20 < (l.length : Int)) || !l.all (okGust d)) = !(decide (l.length ≤ 20) && l.all (okGust d)) := by
      rw [Bool.not_and]
      congr 1
      rw [← decide_not]; congr 1; simp; omega
    rw [e2]
    cases (decide (l.length ≤ 20) && l.all (okGust d)) <;> rfl
theorem p_of {c : Frac} (h : FracOk c) : F_gusts_lift_1 n c = some (ofL c) := by
  have _hn := hn
  obtain ⟨⟨h1, h2⟩, h3, h4⟩ := h
  have hb : 0 < c.Den := by omega
  have hd := tdiv_abs (a := 100 * c.Num) (b := c.Den) (M := 4000000000) (by omega) (by omega)
  have hf := floor_of (a := 100 * c.Num) hb
  have hz : nz c.Den = some () := by unfold nz; rw [if_neg (by omega)]
  simp only [F_gusts_lift_1, F_gusts_down, hz, Option.bind_some]
  rw [w64_id (n := 100 * c.Num) (by omega) (by omega), w64_id (n := (100 * c.Num).tdiv c.Den) (by omega) (by omega), w64_id (n := (100 * c.Num).tdiv c.Den - 1) (by omega) (by omega)]
  unfold ofL
  rw [← hf]
  by_cases hc : (100 * c.Num).tmod c.Den < 0
  · simp only [hc, decide_true, if_true, Option.bind_some]
    rw [w64_id (by omega) (by omega)]
  · simp only [hc, decide_false, Bool.false_eq_true, if_false, Option.bind_some]
    rw [w64_id (by omega) (by omega)]
theorem p_lift {d : Canopy} (hd : DOk d) : F_gusts_lift n d = some (liftS d) := by
  have hl := hd.f.r
  have hs := sec0 hd
  have hd1 : 1 ≤ d.Frame.Low ∧ d.Frame.Low ≤ 6000 := by omega
  have hlo := low_ok hd1 _ (fun x hx => sides_ok hs hx) (sides_ne hs)
  have ha : askT d.Frame 0 d.Frame.Low = 0 := ask_zero (okF_iff.2 hd.f) (by
    have := hd.f.n
    simp only [Bool.and_eq_true, wi_t]; omega)
  have hdist : dist d.Frame 0 d.Frame.Low = d.Frame.Low := by
    have : (d.Frame.Sections.take (0 + 1)).drop 1 = [] := by cases d.Frame.Sections <;> simp
    unfold dist; rw [this]; rfl
  have e : cosineT d.Frame 0 d.Frame.Low = (red (lowF d.Frame.Low (sidesL (secAt d.Frame 0))), red (highF d.Frame.Low (sidesL (secAt d.Frame 0))), 0) := by
    unfold cosineT
    rw [if_pos ha, show (0 : Int).toNat = 0 from rfl, hdist, if_neg (by omega)]
  simp only [F_gusts_lift, p_Cosine hn hd.small.1, e, Option.bind_some, p_of hn (red_ok hlo.1), p_of hn (red_ok hlo.2), ofL_red hlo.1.1.1, ofL_red hlo.2.1.1]
  rfl
theorem p_ends {d : Canopy} (hd : DOk d) : F_gusts_ends n d = some (bestB d, worstB d) := by
  have hr := hd.r
  have kk := loop_fold (step := F_gusts_ends_s1 n d) d.Ribs (fun i (z : List Int × List Int) => ((i : Int), z.1, z.2)) (fun z s => (z.1 ++ [s.High], z.2 ++ [s.Low])) (fun z => (z.1, z.2)) (fun i z => z.1.length = i ∧ z.2.length = i) (n := n) ([], []) ⟨rfl, rfl⟩ (fun i x z hx hz => ?_) (fun z hz => ?_) (by omega)
  · have k1 := kk.1
    rw [show ((0 : Nat) : Int) = 0 from rfl] at k1
    simp only at k1
    simp only [F_gusts_ends, p_lift hn hd, Option.bind_some, k1, bestB, worstB]
    have e := foldl_pair (fun (z : List Int) (s : Span) => z ++ [s.High]) (fun (z : List Int) (s : Span) => z ++ [s.Low]) d.Ribs [] []
    rw [e, foldl_append_map, foldl_append_map]
    rfl
  · have hi := (List.getElem?_eq_some_iff.1 hx).1
    refine ⟨?_, ?_⟩
    · simp only [F_gusts_ends_s1, lt_nat, hi, decide_true, if_true, geti_nat, hx, Option.bind_some]
      rw [lim_ok (by simp; omega), lim_ok (by simp; omega)]
      simp only [Option.bind_some, w64_nat (show i ≤ 4611686018427387904 by omega)]
    · simp [hz.1, hz.2]
  · simp [F_gusts_ends_s1]
theorem p_Lift {d : Canopy} (hs : Small d) : F_gusts_Lift n d = some (liftT d) := by
  simp only [F_gusts_Lift, p_gCheck hn hs, Option.bind_some, liftT]
  by_cases h : okD d = true
  · simp [h, p_lift hn (okD_iff.1 h)]
  · simp [h]
omit hn in
theorem ribs_len {d : Canopy} : (bestB d).ribs.length = d.Ribs.length ∧ (worstB d).ribs.length = d.Ribs.length := by simp [bestB, worstB]
theorem p_lastB {d : Canopy} (hd : DOk d) {g : Gust} (hg : GOk d.Ribs.length g) : F_gusts_blown_last n (bestB d) g = some ((enc d.Ribs.length (sureP d g) : Nat) : Int) := by
  have := p_last hn (best_ok hd) (g := g) (by rw [ribs_len.1]; exact hg)
  rw [ribs_len.1] at this
  exact this
theorem p_lastW {d : Canopy} (hd : DOk d) {g : Gust} (hg : GOk d.Ribs.length g) : F_gusts_blown_last n (worstB d) g = some ((enc d.Ribs.length (mayP d g) : Nat) : Int) := by
  have := p_last hn (worst_ok hd) (g := g) (by rw [ribs_len.2]; exact hg)
  rw [ribs_len.2] at this
  exact this
theorem p_firstB {d : Canopy} (hd : DOk d) {g : Gust} (hg : GOk d.Ribs.length g) : F_gusts_blown_first n (bestB d) g = some ((enc d.Ribs.length (firstB d g) : Nat) : Int) := by
  have := p_first hn (best_ok hd) (g := g) (by rw [ribs_len.1]; exact hg)
  rw [ribs_len.1] at this
  exact this
theorem p_firstW {d : Canopy} (hd : DOk d) {g : Gust} (hg : GOk d.Ribs.length g) : F_gusts_blown_first n (worstB d) g = some ((enc d.Ribs.length (firstP d g) : Nat) : Int) := by
  have := p_first hn (worst_ok hd) (g := g) (by rw [ribs_len.2]; exact hg)
  rw [ribs_len.2] at this
  exact this
theorem p_Goes {d : Canopy} (hs : Small d) (g : Gust) : F_gusts_Goes n d g = some (goesT d g) := by
  simp only [F_gusts_Goes, p_gask hn hs (l := [g]) (by simp), Option.bind_some, goesT]
  by_cases h : askG d [g] = 0
  · obtain ⟨hd, _, hg⟩ := askG_ok.1 h
    have hg := hg g (by simp)
    simp only [h, bne_self_eq_false, Bool.false_eq_true, if_false, if_true, p_ends hn hd, Option.bind_some, p_lastB hn hd hg, p_lastW hn hd hg, p_list hn hd.r.2]
  · simp [h]
end
end Go.Proofs.Yteihdclpiekmaaa
