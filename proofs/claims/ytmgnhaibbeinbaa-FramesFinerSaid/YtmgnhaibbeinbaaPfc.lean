/-
  The plain layer of the reference of frames.
-/
import Derived.Test.YtmgnhaibbeinbaaPfb
namespace Go.Proofs.Ytmgnhaibbeinbaa
open Go Go.RowKit Go.Dec
set_option linter.unusedVariables false

theorem knownI_one {so all : Nat} : knownI so all = 1 ↔ so = all := by
  unfold knownI
  by_cases h : so = all
  · subst h; simp
  · have : ((so : Int) == (all : Int)) = false := by simp; omega
    rw [this]
    by_cases h0 : so = 0
    · subst h0; simp [h]
    · have : ((so : Int) == 0) = false := by simp; omega
      rw [this]; simp [h]
theorem knownI_two {so all : Nat} (h1 : 1 ≤ all) : knownI so all = 2 ↔ so = 0 := by
  unfold knownI
  by_cases h : so = all
  · have : ((so : Int) == (all : Int)) = true := by simp; omega
    rw [this]; simp; omega
  · have : ((so : Int) == (all : Int)) = false := by simp; omega
    rw [this]
    by_cases h0 : so = 0
    · subst h0; simp
    · have : ((so : Int) == 0) = false := by simp; omega
      rw [this]; simp [h0]
theorem knownI_three {so all : Nat} : knownI so all = 3 ↔ so ≠ all ∧ so ≠ 0 := by
  unfold knownI
  by_cases h : so = all
  · have : ((so : Int) == (all : Int)) = true := by simp; omega
    rw [this]; simp [h]
  · have : ((so : Int) == (all : Int)) = false := by simp; omega
    rw [this]
    by_cases h0 : so = 0
    · subst h0; simp
    · have : ((so : Int) == 0) = false := by simp; omega
      rw [this]; simp [h0, h]
theorem knownI_mem {so all : Nat} : knownI so all = 1 ∨ knownI so all = 2 ∨ knownI so all = 3 := by
  unfold knownI; split
  · exact .inl rfl
  · split
    · exact .inr (.inl rfl)
    · exact .inr (.inr rfl)
theorem sides_pos {s : Section} (hs : SecOk s) : 1 ≤ (sidesL s).length := by
  have := sides_ne hs
  cases h : sidesL s with
  | nil => exact absurd h this
  | cons a l => simp
def toP (x : frames_sides) : ref01_Pair := ⟨x.arm, x.stretch⟩
def toS (x : ref01_Pair) : frames_sides := ⟨x.Arm, x.Stretch⟩
def pairsL (s : Section) : List ref01_Pair := (sidesL s).map toP
theorem p_Less (n : Nat) {x y : Frac} (h1 : -40000000 ≤ x.Num ∧ x.Num ≤ 40000000 ∧ 0 ≤ x.Den ∧ x.Den ≤ 24000000) (h2 : -40000000 ≤ y.Num ∧ y.Num ≤ 40000000 ∧ 0 ≤ y.Den ∧ y.Den ≤ 24000000) : F_ref01_Less n x y = some (ltF x y) := by
  have a := mul_abs h1.1 h1.2.1 h2.2.2.1 h2.2.2.2
  have b := mul_abs h2.1 h2.2.1 h1.2.2.1 h1.2.2.2
  simp only [F_ref01_Less, ltF]
  rw [w64_id (n := x.Num * y.Den) (by omega) (by omega), w64_id (n := y.Num * x.Den) (by omega) (by omega)]
theorem p_within01 (n : Nat) (a b c : Int) : F_ref01_Within n a b c = some (wi a b c) := rfl
theorem frac_b {x : Frac} (h : FracOk x) : -40000000 ≤ x.Num ∧ x.Num ≤ 40000000 ∧ 0 ≤ x.Den ∧ x.Den ≤ 24000000 := ⟨h.2.1, h.2.2, by have := h.1.1; omega, h.1.2⟩
theorem p_distance01 {f : Frame} (hf : FOk f) {r : Int} (hr : 0 ≤ r ∧ r ≤ 2000) : ∀ (i m : Nat), i < m → i < f.Sections.length → F_ref01_distance m f i r = some (dist f i r)
  | 0, m, hm, hi => by
    obtain ⟨m, rfl⟩ : ∃ k, m = k + 1 := ⟨m - 1, by omega⟩
    rw [F_ref01_distance]
    have e : dist f 0 r = r := by
      unfold dist
      rw [List.drop_eq_nil_of_le (by simp; omega)]; rfl
    simp [e]
  | i + 1, m, hm, hi => by
    obtain ⟨m, rfl⟩ : ∃ k, m = k + 1 := ⟨m - 1, by omega⟩
    have hl := hf.n
    have ih := p_distance01 hf hr i m (by omega) (by omega)
    have hg := secAt_get hi
    have hs := hf.s _ (secAt_mem hi)
    have hd := dist_in hf hr i
    obtain ⟨k1, k2, k3, k4, k5, k6⟩ := gear_in hs hd.1 hd.2
    have hc := hs.c
    have hdd := hs.d
    have e1 : w64 (((i + 1 : Nat) : Int) - 1) = (i : Int) := by rw [w64_id] <;> omega
    have hnz : nz (secAt f (i + 1)).Gear.Den = some () := by unfold nz; rw [if_neg (by omega)]
    rw [F_ref01_distance]
    simp only
    rw [if_neg (by simp; omega), geti_nat, hg]
    simp only [Option.bind_some, e1, ih, hnz]
    rw [w64_id (n := dist f i r * _) (by omega) (by omega), w64_id (n := Int.tdiv _ _) (by omega) (by omega)]
    rw [dist_succ hg]
    exact congrArg some (w64_id (n := gearStep (dist f i r) (secAt f (i + 1))) (by omega) (by omega))

section
variable {n : Nat} (hn : 100000000 ≤ n)
include hn
theorem p_Check01 {f : Frame} (hl : f.Sections.length ≤ 1000) : F_ref01_Check n f = some (if okF f = true then 0 else 10) := by
  have h1 := loop_all_l (step := F_ref01_Check_s1 n f) f.Sections okSec (10 : Int) (n := n) (by omega) (fun i x hx hi => by
    simp only [F_ref01_Check_s1, F_ref01_isLong, F_ref01_isShare, geti_nat, hx, Option.bind_some, p_within01, and_br, or_br, lt_nat, hi, decide_true, if_true, w64_nat (show i ≤ 4611686018427387904 by omega)]
    have e : (!(wi x.Arm.Low 1 x.Arm.High && decide (x.Arm.High ≤ 2000) && decide (w64 (x.Arm.High - x.Arm.Low) ≤ 6)) || !(wi x.Stretch.Low 1 x.Stretch.High && decide (x.Stretch.High ≤ 2000) && decide (w64 (x.Stretch.High - x.Stretch.Low) ≤ 6)) || !wi x.Base 0 2000 || !(wi x.Gear.Den 1 20 && wi x.Gear.Num 0 x.Gear.Den)) = !okSec x := by
      simp only [okSec, okSpan, okShare, Bool.not_and, Bool.or_assoc]
    rw [e]
    cases okSec x <;> rfl) (by simp [F_ref01_Check_s1]) (by omega)
  simp only [F_ref01_Check, h1, Option.bind_some]
  cases ha : f.Sections.all okSec with
  | false =>
    have : okF f = false := by simp [okF, ha]
    rw [this]; rfl
  | true =>
    simp only [cond_true, F_ref01_isShare, p_within01, Option.bind_some, and_br, or_br]
    have e : (!wi f.Sections.length 1 3 || !wi f.Low 1 f.High || decide (2000 < f.High) || decide (200 < w64 (f.High - f.Low)) || !(wi f.Ease.Den 1 20 && wi f.Ease.Num 0 f.Ease.Den) || !wi f.Rod 0 4000 || !wi f.Case 0 4000) = !okF f := by
      simp only [okF, okShare, ha, Bool.not_and, Bool.or_assoc, Bool.not_true, Bool.false_or, ← decide_not, Int.not_le]
    rw [e]
    cases okF f <;> rfl
theorem p_Pairs {f : Frame} (hf : FOk f) {i : Nat} (hi : i < f.Sections.length) : F_ref01_Pairs n f i = some (pairsL (secAt f i)) := by
  have hs := hf.s _ (secAt_mem hi)
  have ha := hs.a; have hb := hs.b
  simp only [F_ref01_Pairs, geti_nat, secAt_get hi, Option.bind_some]
  generalize secAt f i = s at *
  have inner : ∀ (a : Int) (out : List ref01_Pair), out.length ≤ 1000 → loopO n (F_ref01_Pairs_s2 n s a) (s.Stretch.Low, out) = some (out ++ (span s.Stretch.Low s.Stretch.High).map fun b => (⟨a, b⟩ : ref01_Pair)) := fun a out ho => by
    have := loop_span_fold (step := F_ref01_Pairs_s2 n s a) (hi := s.Stretch.High) (fun b o => (b, o)) (fun o b => o ++ [(⟨a, b⟩ : ref01_Pair)]) (fun o => o) (fun b o => (o.length : Int) ≤ 1000 + (b - s.Stretch.Low)) _ s.Stretch.Low out n rfl (by omega) (fun b o h1 h2 h3 => by
      refine ⟨?_, by rw [List.length_append, List.length_singleton]; omega⟩
      simp only [F_ref01_Pairs_s2]
      rw [if_pos (by simpa using h2), lim_ok (by rw [List.length_append, List.length_singleton]; omega), w64_id (by omega) (by omega)]
      rfl) (fun b o h1 _ _ => by
      simp only [F_ref01_Pairs_s2]
      rw [if_neg (by simp; omega)]) (by omega)
    rw [this.1, foldl_append_map]
  have := loop_span_fold (step := F_ref01_Pairs_s1 n s) (hi := s.Arm.High) (fun b o => (b, o)) (fun o a => o ++ (span s.Stretch.Low s.Stretch.High).map fun b => (⟨a, b⟩ : ref01_Pair)) (fun o => o) (fun b o => (o.length : Int) ≤ 7 * (b - s.Arm.Low)) _ s.Arm.Low ([] : List ref01_Pair) n rfl (by simp) (fun b o h1 h2 h3 => by
    have h7 := span_len7 hb.2.2.2
    refine ⟨?_, by rw [List.length_append, List.length_map]; omega⟩
    simp only [F_ref01_Pairs_s1]
    rw [if_pos (by simpa using h2), inner b o (by omega), w64_id (by omega) (by omega)]
    rfl) (fun b o h1 _ _ => by
    simp only [F_ref01_Pairs_s1]
    rw [if_neg (by simp; omega)]) (by omega)
  rw [this.1]
  have e : ∀ (l : List Int) (o : List ref01_Pair), l.foldl (fun o a => o ++ (span s.Stretch.Low s.Stretch.High).map fun b => (⟨a, b⟩ : ref01_Pair)) o = o ++ (l.flatMap fun a => (span s.Stretch.Low s.Stretch.High).map fun b => (⟨a, b⟩ : frames_sides)).map toP := by
    intro l
    induction l with
    | nil => intro o; simp
    | cons a l ih =>
      intro o
      rw [List.foldl_cons, ih, List.flatMap_cons, List.map_append, List.map_map]
      simp [toP, Function.comp_def]
  rw [e]
  rfl
theorem p_Reduced {x : Frac} (h : FracOk x) : F_ref01_Reduced n x.Num x.Den = some (red x) := by
  have := p_gcd hn h (F_ref01_Reduced_s1 n) (fun a => by simp [F_ref01_Reduced_s1]) (fun a b hb => by
    have hz : nz b = some () := by unfold nz; rw [if_neg hb]
    simp [F_ref01_Reduced_s1, hb, hz])
  obtain ⟨h1, h2, h3⟩ := red_w h
  simp only [F_ref01_Reduced, this, Option.bind_some, h1, h2, h3]
theorem p_CosineOf {d : Int} (hd : 0 ≤ d ∧ d ≤ 6000) {p : ref01_Pair} (hp : XOk (toS p)) : F_ref01_CosineOf n d p = some (if d = 0 then (⟨0, 0⟩, false) else (red (cosF d (toS p)), true)) := by
  simp only [F_ref01_CosineOf]
  by_cases h0 : d = 0
  · simp [h0]
  · have hd' : 1 ≤ d ∧ d ≤ 6000 := by omega
    have hc := cos_ok hd' hp
    obtain ⟨⟨⟨k1, k2⟩, k3, k4⟩, h1, h2, h3⟩ := hc
    simp only [cosF, toS] at k1 k2 k3 k4 h1 h2 h3
    have h0' : (d == 0) = false := by simpa using h0
    simp only [h0', Bool.false_eq_true, if_false, h0]
    rw [w64_id (n := d * d) (by omega) (by omega), w64_id (n := p.Arm * p.Arm) (by omega) (by omega), w64_id (n := p.Stretch * p.Stretch) (by omega) (by omega), w64_id (n := 2 * d) (by omega) (by omega), w64_id (n := 2 * d * p.Arm) (by omega) (by omega), w64_id (n := d * d + p.Arm * p.Arm) (by omega) (by omega), w64_id (n := d * d + p.Arm * p.Arm - p.Stretch * p.Stretch) (by omega) (by omega)]
    have := p_Reduced hn (cos_ok hd' hp).1
    simp only [cosF, toS] at this
    rw [this]
    rfl
theorem p_BindsAt {f : Frame} (hf : FOk f) {i : Nat} (hi : i < f.Sections.length) {r : Int} (hr : f.Low ≤ r ∧ r ≤ f.High) {p : ref01_Pair} (hp : XOk (toS p)) : F_ref01_BindsAt n f i r p = some (bindsP (dist f i r) f.Ease (toS p)) := by
  have hrr := hf.r
  have hl := hf.n
  have he := hf.e
  have hd := dist_in hf (r := r) (by omega) i
  simp only [F_ref01_BindsAt, p_distance01 hf (r := r) (by omega) i n (by omega) hi, Option.bind_some, p_CosineOf hn hd hp]
  rw [w64_id (n := f.Ease.Den - f.Ease.Num) (by omega) (by omega), w64_id (n := -(f.Ease.Den - f.Ease.Num)) (by omega) (by omega)]
  by_cases h0 : dist f i r = 0
  · simp [h0, bindsP]
  · have hc := (cos_ok (d := dist f i r) (by omega) hp).1
    have hrd := red_ok hc
    have h0' : (dist f i r == 0) = false := by simpa using h0
    simp only [h0, if_false, Bool.not_true, Bool.false_eq_true]
    rw [p_Less n (frac_b hrd) (by simp only; omega), p_Less n (by simp only; omega) (frac_b hrd), ltF_red_l hc.1.1, ltF_red_r hc.1.1]
    simp only [Option.bind_some, or_br, bindsP, h0', Bool.false_or]
theorem count_pairs (s : Section) (p : frames_sides → Bool) : (pairsL s).countP (fun x => p (toS x)) = (sidesL s).countP p := by
  have _hn := hn
  unfold pairsL
  rw [List.countP_map]
  rfl
theorem pairs_ok {s : Section} (hs : SecOk s) {p : ref01_Pair} (h : p ∈ pairsL s) : XOk (toS p) := by
  have _hn := hn
  obtain ⟨x, hx, rfl⟩ := List.mem_map.1 h
  exact sides_ok hs hx
theorem pairs_len (s : Section) : (pairsL s).length = (sidesL s).length := by
  have _hn := hn
  simp [pairsL]
/-- a loop over pairs that counts -/
theorem p_count {s : Section} (hs : SecOk s) (step : Int × Int → Option ((Int × Int) ⊕ Int)) (q : ref01_Pair → Bool)
    (h : ∀ (i : Nat) x (c : Int), (pairsL s)[i]? = some x → 0 ≤ c ∧ c ≤ 1000 → step (c, (i : Int)) = some (.inl (if q x = true then c + 1 else c, ((i + 1 : Nat) : Int)))) (hd : ∀ c, step (c, ((pairsL s).length : Int)) = some (.inr c)) :
    loopO n step (0, 0) = some (((pairsL s).countP q : Nat) : Int) := by
  have hl := sides_len hs
  have hl2 := pairs_len hn s
  have := loop_fold (step := step) (pairsL s) (fun i c => (c, (i : Int))) (fun c x => if q x = true then c + 1 else c) (fun c => c) (fun i c => 0 ≤ c ∧ c ≤ i) (n := n) (0 : Int) (by omega) (fun i x b hx hb => by
    have hi := (List.getElem?_eq_some_iff.1 hx).1
    exact ⟨h i x b hx (by omega), by split <;> omega⟩) (fun b _ => hd b) (by omega)
  simp only [Int.natCast_zero] at this
  rw [this.1, foldl_count]
  simp
theorem p_binds01 {f : Frame} (hf : FOk f) {i : Nat} (hi : i < f.Sections.length) {r : Int} (hr : f.Low ≤ r ∧ r ≤ f.High) : F_ref01_binds n f i r = some ((((sidesL (secAt f i)).countP (bindsP (dist f i r) f.Ease) : Nat) : Int), ((sidesL (secAt f i)).length : Int)) := by
  have hs := hf.s _ (secAt_mem hi)
  have hl := sides_len hs
  have hl2 := pairs_len hn (secAt f i)
  simp only [F_ref01_binds, p_Pairs hn hf hi, Option.bind_some]
  rw [p_count hn hs (F_ref01_binds_s1 n f i r (pairsL (secAt f i))) (fun x => bindsP (dist f i r) f.Ease (toS x)) (fun j x c hx hc => by
    have hj := (List.getElem?_eq_some_iff.1 hx).1
    simp only [F_ref01_binds_s1, geti_nat, hx, lt_nat, hj, decide_true, if_true, Option.bind_some, p_BindsAt hn hf hi hr (pairs_ok hn hs (List.mem_of_getElem? hx)), w64_nat (show j ≤ 4611686018427387904 by omega)]
    rw [w64_id (n := c + 1) (by omega) (by omega)]
    cases bindsP (dist f i r) f.Ease (toS x) <;> rfl) (fun c => by simp [F_ref01_binds_s1]), count_pairs hn, hl2]
  rfl
theorem p_is (so all : Nat) : F_ref01_is n so all = some (knownI so all) := by
  have _hn := hn
  simp only [F_ref01_is, some_br, knownI]
theorem p_IsSection {f : Frame} (hl : f.Sections.length ≤ 1000) (sec : Int) : F_ref01_IsSection n f sec = some (wi sec 0 ((f.Sections.length : Int) - 1)) := by
  have _hn := hn
  simp only [F_ref01_IsSection, p_within01, Option.bind_some]
  rw [w64_id (by omega) (by omega)]
theorem p_IsPosition {f : Frame} (r : Int) : F_ref01_IsPosition n f r = some (wi r f.Low f.High) := by
  have _hn := hn
  simp only [F_ref01_IsPosition, p_within01, Option.bind_some]
theorem p_check01 {f : Frame} (hl : f.Sections.length ≤ 1000) (sec r : Int) : F_ref01_check n f (wi sec 0 ((f.Sections.length : Int) - 1) && wi r f.Low f.High) = some (askT f sec r) := by
  simp only [F_ref01_check, p_Check01 hn hl, Option.bind_some, askT]
  by_cases ho : okF f = true
  · simp only [ho, if_true]
    cases (wi sec 0 ((f.Sections.length : Int) - 1) && wi r f.Low f.High) <;> rfl
  · simp [ho]
theorem p_Distance01 {f : Frame} (hl : f.Sections.length ≤ 1000) (sec r : Int) : F_ref01_Distance n f sec r = some (distanceT f sec r) := by
  simp only [F_ref01_Distance, p_IsSection hn hl, p_IsPosition hn, Option.bind_some, and_br, p_check01 hn hl, distanceT]
  by_cases h : askT f sec r = 0
  · obtain ⟨h1, ⟨h2, h3⟩, h4⟩ := askT_ok h
    have := h1.r
    have hl' := h1.n
    have e := p_distance01 h1 (r := r) (by omega) sec.toNat n (by omega) h3
    rw [← h2] at e
    simp [h, e]
  · simp [h]
theorem p_Binds01 {f : Frame} (hl : f.Sections.length ≤ 1000) (sec r : Int) : F_ref01_Binds n f sec r = some (bindsT f sec r) := by
  simp only [F_ref01_Binds, p_IsSection hn hl, p_IsPosition hn, Option.bind_some, and_br, p_check01 hn hl, bindsT]
  by_cases h : askT f sec r = 0
  · obtain ⟨h1, ⟨h2, h3⟩, h4⟩ := askT_ok h
    have e := p_binds01 hn h1 h3 h4
    rw [← h2] at e
    simp only [h, bne_self_eq_false, Bool.false_eq_true, if_false, if_true, e, Option.bind_some, p_is hn]
    rfl
  · simp [h]
theorem low_red {d : Int} (hd : 1 ≤ d ∧ d ≤ 6000) : ∀ (l : List frames_sides) (m m' : Frac), (∀ x ∈ l, XOk x) → FracOk m → FracOk m' →
    l.foldl (fun m x => if ltF (red (cosF d x)) m = true then red (cosF d x) else m) (red m) = red (l.foldl (fun m x => if ltF (cosF d x) m = true then cosF d x else m) m) ∧
    l.foldl (fun m x => if ltF m (red (cosF d x)) = true then red (cosF d x) else m) (red m') = red (l.foldl (fun m x => if ltF m (cosF d x) = true then cosF d x else m) m') := by
  have _hn := hn
  intro l
  induction l with
  | nil => intro m m' _ _ _; exact ⟨rfl, rfl⟩
  | cons b l ih =>
    intro m m' hx h1 h2
    have hb := (cos_ok hd (hx b (List.mem_cons_self ..))).1
    simp only [List.foldl_cons]
    rw [ltF_red hb.1.1 h1.1.1, ltF_red h2.1.1 hb.1.1]
    have := ih (if ltF (cosF d b) m = true then cosF d b else m) (if ltF m' (cosF d b) = true then cosF d b else m') (fun x h => hx x (List.mem_cons_of_mem _ h)) (by split <;> assumption) (by split <;> assumption)
    rw [← this.1, ← this.2]
    constructor
    · congr 1; split <;> rfl
    · congr 1; split <;> rfl
theorem p_Cosine01 {f : Frame} (hl : f.Sections.length ≤ 1000) (sec r : Int) : F_ref01_Cosine n f sec r = some (cosineT f sec r) := by
  simp only [F_ref01_Cosine, p_IsSection hn hl, p_IsPosition hn, Option.bind_some, and_br, p_check01 hn hl, cosineT]
  by_cases h : askT f sec r = 0
  · obtain ⟨h1, ⟨h2, h3⟩, h4⟩ := askT_ok h
    have hr := h1.r
    have hln := h1.n
    have hs := h1.s _ (secAt_mem h3)
    have ep := p_Pairs hn h1 h3
    have ed := p_distance01 h1 (r := r) (by omega) sec.toNat n (by omega) h3
    rw [← h2] at ep ed
    have hd := dist_in h1 (r := r) (by omega) sec.toNat
    have hlen := sides_len hs
    have hlen2 := pairs_len hn (secAt f sec.toNat)
    simp only [h, bne_self_eq_false, Bool.false_eq_true, if_false, if_true, ep, Option.bind_some]
    have hx : ∀ x ∈ sidesL (secAt f sec.toNat), XOk x := fun x hx => sides_ok hs hx
    have hpx : ∀ x ∈ pairsL (secAt f sec.toNat), XOk (toS x) := fun x hx => pairs_ok hn hs hx
    have hne := sides_ne hs
    have hpl : pairsL (secAt f sec.toNat) = (sidesL (secAt f sec.toNat)).map toP := rfl
    generalize pairsL (secAt f sec.toNat) = pl at *
    generalize sidesL (secAt f sec.toNat) = l at *
    cases l with
    | nil => exact absurd rfl hne
    | cons a tl =>
      subst hpl
      rw [List.map_cons] at *
      obtain ⟨m, rfl⟩ : ∃ k, n = k + 1 := ⟨n - 1, by omega⟩
      have h00 : (toP a :: tl.map toP)[0]? = some (toP a) := rfl
      by_cases h0 : dist f sec.toNat r = 0
      · have s0 : F_ref01_Cosine_s1 (m + 1) f sec r (toP a :: tl.map toP) (0, 0, 0, 0, 0) = some (.inr (.inl (⟨0, 0⟩, ⟨0, 0⟩, 3))) := by
          have hg : geti (toP a :: tl.map toP) 0 = some (toP a) := rfl
          have hlt : decide ((0 : Int) < ((toP a :: tl.map toP).length : Int)) = true := by simp
          simp only [F_ref01_Cosine_s1, hlt, if_true, ed, hg, Option.bind_some, p_CosineOf hn hd (hpx (toP a) (List.mem_cons_self ..))]
          simp [h0]
        rw [loop_done s0 (by omega)]
        simp [h0]
      · have hd' : 1 ≤ dist f sec.toNat r ∧ dist f sec.toNat r ≤ 6000 := by omega
        simp only [h0, if_false]
        generalize hdd : dist f sec.toNat r = d at *
        have step : ∀ (i : Nat) (x : ref01_Pair) (z : Int × Int × Int × Int), (toP a :: tl.map toP)[i]? = some x → (i ≠ 0 → FracOk ⟨z.1, z.2.1⟩ ∧ FracOk ⟨z.2.2.1, z.2.2.2⟩) →
            F_ref01_Cosine_s1 (m + 1) f sec r (toP a :: tl.map toP) ((i : Int), z.1, z.2.1, z.2.2.1, z.2.2.2) = some (.inl (((i + 1 : Nat) : Int),
              (if (decide (i = 0) || ltF ⟨z.1, z.2.1⟩ (red (cosF d (toS x)))) = true then (red (cosF d (toS x))).Num else z.1), (if (decide (i = 0) || ltF ⟨z.1, z.2.1⟩ (red (cosF d (toS x)))) = true then (red (cosF d (toS x))).Den else z.2.1),
              (if (decide (i = 0) || ltF (red (cosF d (toS x))) ⟨z.2.2.1, z.2.2.2⟩) = true then (red (cosF d (toS x))).Num else z.2.2.1), (if (decide (i = 0) || ltF (red (cosF d (toS x))) ⟨z.2.2.1, z.2.2.2⟩) = true then (red (cosF d (toS x))).Den else z.2.2.2))) := fun i x z hxi hz => by
          have hi := (List.getElem?_eq_some_iff.1 hxi).1
          have hxo := hpx x (List.mem_of_getElem? hxi)
          have hr := red_ok (cos_ok hd' hxo).1
          simp only [F_ref01_Cosine_s1, geti_nat, hxi, ed, Option.bind_some, lt_nat, hi, decide_true, if_true, p_CosineOf hn hd hxo, h0, if_false, Bool.not_true, Bool.false_eq_true, w64_nat (show i ≤ 4611686018427387904 by omega)]
          cases i with
          | zero => rfl
          | succ i =>
            obtain ⟨z1, z2⟩ := hz (by omega)
            have e0 : (((i + 1 : Nat) : Int) == 0) = false := by simp; omega
            have e1 : decide (i + 1 = 0) = false := by simp
            rw [e0, p_Less _ (frac_b hr) (frac_b z2), p_Less _ (frac_b z1) (frac_b hr), e1]
            simp only [Bool.false_eq_true, if_false, Option.bind_some, Bool.false_or]
            cases ltF (red (cosF d (toS x))) ⟨z.2.2.1, z.2.2.2⟩ <;> cases ltF ⟨z.1, z.2.1⟩ (red (cosF d (toS x))) <;> rfl
        have s0 := step 0 (toP a) (0, 0, 0, 0) h00 (fun h => absurd rfl h)
        simp only [Int.natCast_zero, decide_true, Bool.true_or, if_true] at s0
        rw [loopO_succ, s0]
        have hra := red_ok (cos_ok hd' (hx a (List.mem_cons_self ..))).1
        have := loop_fold (step := F_ref01_Cosine_s1 (m + 1) f sec r (toP a :: tl.map toP)) tl (fun i (z : Frac × Frac) => (((i + 1 : Nat) : Int), z.1.Num, z.1.Den, z.2.Num, z.2.Den)) (fun z x => (if ltF z.1 (red (cosF d x)) = true then red (cosF d x) else z.1, if ltF (red (cosF d x)) z.2 = true then red (cosF d x) else z.2)) (fun z => (.inr (z.1.Num, z.1.Den, z.2.Num, z.2.Den))) (fun i z => FracOk z.1 ∧ FracOk z.2) (n := m) (red (cosF d a), red (cosF d a)) ⟨hra, hra⟩ (fun i x z hxi hz => by
          have hr := red_ok (cos_ok hd' (hx x (List.mem_cons_of_mem _ (List.mem_of_getElem? hxi)))).1
          have := step (i + 1) (toP x) (z.1.Num, z.1.Den, z.2.Num, z.2.Den) (by simp [hxi]) (fun _ => hz)
          refine ⟨?_, ⟨by simp only; split; exact hr; exact hz.1, by simp only; split; exact hr; exact hz.2⟩⟩
          rw [this]
          have e1 : decide (i + 1 = 0) = false := by simp
          have e2 : toS (toP x) = x := rfl
          rw [e1, e2]
          simp only [Bool.false_or]
          cases ltF z.1 (red (cosF d x)) <;> cases ltF (red (cosF d x)) z.2 <;> rfl) (fun z _ => by
          have e : ((tl.length + 1 : Nat) : Int) = ((toP a :: tl.map toP).length : Int) := by simp
          rw [e]
          simp [F_ref01_Cosine_s1]) (by simp at hlen; omega)
        simp only at this
        have e2 : toS (toP a) = a := rfl
        rw [e2]
        simp only [Nat.zero_add] at this ⊢
        rw [this.1]
        have hp := foldl_pair (fun (h : Frac) (x : frames_sides) => if ltF h (red (cosF d x)) = true then red (cosF d x) else h) (fun (l : Frac) (x : frames_sides) => if ltF (red (cosF d x)) l = true then red (cosF d x) else l) tl (red (cosF d a)) (red (cosF d a))
        rw [hp]
        have hca := (cos_ok hd' (hx a (List.mem_cons_self ..))).1
        have hlr := low_red hn hd' tl (cosF d a) (cosF d a) (fun x h => hx x (List.mem_cons_of_mem _ h)) hca hca
        rw [hlr.1, hlr.2]
        rfl
  · simp [h]
end
end Go.Proofs.Ytmgnhaibbeinbaa
