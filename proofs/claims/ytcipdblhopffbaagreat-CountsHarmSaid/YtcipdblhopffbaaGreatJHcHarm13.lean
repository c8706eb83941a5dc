/-
  CountsHarm holds of every input that can be given, without a condition.
-/
import Derived.Test.YtcipdblhopffbaaGreatJHcHarm12
import Derived.OpenShut
import Derived.JoinedCond
section
namespace Go.Proofs.YtcipdblhopffbaaGreat
open Go Go.RowKit Go.Dec
theorem stands_val (d : Canopy) (l : List Gust) : standsI d l = 1 ∨ standsI d l = 2 ∨ standsI d l = 3 := by
  unfold standsI
  split
  · exact .inl rfl
  · split
    · exact .inr (.inr rfl)
    · exact .inr (.inl rfl)
theorem fell_t {d : Canopy} {b : Blow} {f : Int} : fellA d true b f = true ↔ standsI d [⟨f, b.At⟩] = 2 := by simp [fellA]
theorem fell_f {d : Canopy} {b : Blow} {f : Int} : fellA d false b f = true ↔ standsI d [⟨f, b.At⟩] ≠ 1 := by
  rcases stands_val d [⟨f, b.At⟩] with h | h | h <;> simp [fellA, h]
theorem askN_mono {a a' : Blow → Int → Bool} {bl : List Blow} {c : List Int} (h : ∀ p ∈ bl.zip c, a p.1 p.2 = true → a' p.1 p.2 = true) : askN a bl c ≤ askN a' bl c := by
  unfold askN
  exact List.countP_mono_left h
theorem fell_tf {d : Canopy} {b : Blow} {f : Int} (h : fellA d true b f = true) : fellA d false b f = true := fell_f.2 (by rw [fell_t.1 h]; decide)
end Go.Proofs.YtcipdblhopffbaaGreat
end
section
namespace Go.Proofs.YtcipdblhopffbaaGreat
open Go Go.RowKit Go.Dec
/-- a loop over a span -/
theorem loop_span {σ ρ : Type} {step : Int × σ → Option ((Int × σ) ⊕ ρ)} {hi : Int} (g : σ → Int → σ) (fin : σ → ρ) (I : Int → σ → Prop) : ∀ (k : Nat) (lo : Int) (s : σ) (n : Nat), (hi + 1 - lo).toNat = k → I lo s →
    (∀ b s, lo ≤ b → b ≤ hi → I b s → step (b, s) = some (.inl (b + 1, g s b)) ∧ I (b + 1) (g s b)) → (∀ b s, hi < b → step (b, s) = some (.inr (fin s))) → k < n →
    loopO n step (lo, s) = some (fin ((span lo hi).foldl g s)) := by
  intro k
  induction k with
  | zero =>
    intro lo s n hk _ _ hd hn
    rw [span_nil (by omega)]
    exact loop_done (hd lo s (by omega)) hn
  | succ k ih =>
    intro lo s n hk hI h hd hn
    obtain ⟨m, rfl⟩ : ∃ k, n = k + 1 := ⟨n - 1, by omega⟩
    obtain ⟨h1, h2⟩ := h lo s (Int.le_refl _) (by omega) hI
    rw [loopO_succ, h1, span_cons (by omega), List.foldl_cons]
    exact ih (lo + 1) _ m (by omega) h2 (fun b s hb => h b s (by omega)) hd (by omega)
theorem foldl_app {α β : Type} (g : α → List β) : ∀ (l : List α) (s : List β), l.foldl (fun s x => s ++ g x) s = s ++ l.flatMap g
  | [], s => by simp
  | a :: l, s => by rw [List.foldl_cons, foldl_app g l, List.flatMap_cons, List.append_assoc]
theorem foldl_cnt {α : Type} (p : α → Bool) : ∀ (l : List α) (s : Nat), l.foldl (fun s x => if p x = true then s + 1 else s) s = s + l.countP p
  | [], s => by simp
  | a :: l, s => by
    rw [List.foldl_cons, foldl_cnt p l, List.countP_cons]
    cases p a <;> simp <;> omega
theorem foldl_filter' {α : Type} (p : α → Bool) : ∀ (l s : List α), l.foldl (fun s x => if p x = true then s ++ [x] else s) s = s ++ l.filter p
  | [], s => by simp
  | a :: l, s => by
    rw [List.foldl_cons, foldl_filter' p l, List.filter_cons]
    cases p a <;> simp
theorem cases_small : ∀ (bl : List Blow), (∀ b ∈ bl, b.Force.High - b.Force.Low ≤ 9) → (casesS bl).length ≤ 10 ^ bl.length
  | [], _ => by simp [casesS]
  | b :: bl, h => by
    have ih := cases_small bl fun x hx => h x (List.mem_cons_of_mem _ hx)
    have hb := h b (List.mem_cons_self ..)
    unfold casesS
    have h1 := flatMap_len (l := span b.Force.Low b.Force.High) (f := fun f => (casesS bl).map fun c => f :: c) (c := (casesS bl).length) fun x _ => by simp
    rw [span_len] at h1
    rw [List.length_cons, Nat.pow_succ, Nat.mul_comm]
    refine Nat.le_trans h1 (Nat.mul_le_mul (by omega) ih)
section
variable {n : Nat} (hn : 200000000 ≤ n)
include hn
theorem p_cases {r : Run} (hr : ROk r) : ∀ (k : Nat) (first : List Int) (m : Nat), first.length + k = r.Blows.length → 100000000 + k < m → F_ref13_cases m r first = some ((casesS (r.Blows.drop first.length)).map (first ++ ·)) := by
  have _hn := hn
  have hnb := hr.nb
  intro k
  induction k with
  | zero =>
    intro first m hk hm
    obtain ⟨m, rfl⟩ : ∃ k, m = k + 1 := ⟨m - 1, by omega⟩
    have e : ((first.length : Int) == (r.Blows.length : Int)) = true := by simp; omega
    simp only [F_ref13_cases, e, if_true]
    rw [List.drop_eq_nil_of_le (by omega)]
    simp [casesS]
  | succ k ih =>
    intro first m hk hm
    obtain ⟨m, rfl⟩ : ∃ k, m = k + 1 := ⟨m - 1, by omega⟩
    have e : ((first.length : Int) == (r.Blows.length : Int)) = false := by simp; omega
    have hlt : first.length < r.Blows.length := by omega
    have hb := hr.b _ (List.getElem_mem hlt)
    have hbl := hb.le; have hbg := hb.gap; have hb0 := hb.lo; have hbh := hb.hi
    have hgt : geti r.Blows (first.length : Int) = some r.Blows[first.length] := by rw [geti_nat]; exact List.getElem?_eq_getElem hlt
    simp only [F_ref13_cases, e, Bool.false_eq_true, if_false, hgt, Option.bind_some]
    generalize hB : r.Blows[first.length] = b at *
    have hc : (casesS (r.Blows.drop (first.length + 1))).length ≤ 10000000 := by
      have h1 := cases_small (r.Blows.drop (first.length + 1)) fun x hx => (hr.b x (List.mem_of_mem_drop hx)).gap
      have h2 : (r.Blows.drop (first.length + 1)).length ≤ 7 := by rw [List.length_drop]; omega
      have h3 : (10 : Nat) ^ (r.Blows.drop (first.length + 1)).length ≤ 10 ^ 7 := Nat.pow_le_pow_right (by omega) h2
      omega
    have hl := loop_span (step := F_ref13_cases_s1 m (F_ref13_cases m) r first b) (hi := b.Force.High) (fun s f => s ++ (casesS (r.Blows.drop (first.length + 1))).map ((first ++ [f]) ++ ·)) (fun s => s)
      (fun f s => b.Force.Low ≤ f ∧ s.length ≤ (f - b.Force.Low).toNat * (casesS (r.Blows.drop (first.length + 1))).length) _ b.Force.Low [] m rfl ⟨Int.le_refl _, by simp⟩ (fun f s h1 h2 hI => by
        have k1 : (f - b.Force.Low).toNat * (casesS (r.Blows.drop (first.length + 1))).length ≤ 9 * 10000000 := Nat.mul_le_mul (by omega) hc
        have k2 : (f + 1 - b.Force.Low).toNat = (f - b.Force.Low).toNat + 1 := by omega
        have k3 := hI.2
        have e1 : lim (([] : List Int) ++ first) = some first := by rw [List.nil_append]; exact lim_ok (by omega)
        have e2 : lim (first ++ [f]) = some (first ++ [f]) := lim_ok (by simp; omega)
        have e3 := ih (first ++ [f]) m (by simp; omega) (by omega)
        have e4 : (first ++ [f]).length = first.length + 1 := by simp
        rw [e4] at e3
        have e5 : lim (s ++ (casesS (r.Blows.drop (first.length + 1))).map ((first ++ [f]) ++ ·)) = some (s ++ (casesS (r.Blows.drop (first.length + 1))).map ((first ++ [f]) ++ ·)) := lim_ok (by rw [List.length_append, List.length_map]; omega)
        refine ⟨?_, by omega, ?_⟩
        · simp only [F_ref13_cases_s1, decide_eq_true h2, if_true, e1, e2, e3, e5, Option.bind_some, w64_id (show -9223372036854775808 ≤ f + 1 by omega) (show f + 1 ≤ 9223372036854775807 by omega)]
        · rw [k2, Nat.succ_mul, List.length_append, List.length_map]; omega) (fun f s hf => by
        simp only [F_ref13_cases_s1, decide_eq_false (show ¬ f ≤ b.Force.High by omega), Bool.false_eq_true, if_false]) (by omega)
    rw [hl, Option.bind_some]
    congr 1
    rw [foldl_app, List.nil_append, List.drop_eq_getElem_cons hlt, hB]
    conv => rhs; unfold casesS
    rw [List.map_flatMap]
    congr 1
    funext f
    rw [List.map_map]
    congr 1
    funext c
    simp
theorem p_cases0 {r : Run} (hr : ROk r) : F_ref13_cases n r [] = some (casesS r.Blows) := by
  have hnb := hr.nb
  rw [p_cases hn hr r.Blows.length [] n (by simp) (by omega)]
  simp
theorem p_Above13 {c : List Int} (hc : c.length ≤ 100000000) (x : Int) : F_ref13_Above n c x = some (aboveS c x : Int) := by
  have hl := loop_fold (step := F_ref13_Above_s1 n c x) c (fun i (k : Nat) => ((k : Int), (i : Int))) (fun k f => if decide (x ≤ f) = true then k + 1 else k) (fun k => (k : Int)) (fun i k => k ≤ i) (n := n) 0 (Nat.le_refl _) (fun i f k hf hk => by
    have hi : i < c.length := (List.getElem?_eq_some_iff.1 hf).1
    simp only [F_ref13_Above_s1, lt_nat, hi, decide_true, if_true, geti_nat, hf, Option.bind_some, w64_nat (show i ≤ 4611686018427387904 by omega), w64_nat (show k ≤ 4611686018427387904 by omega)]
    by_cases h : x ≤ f
    · simp only [decide_eq_true h, if_true, Option.bind_some]; exact ⟨trivial, by omega⟩
    · simp only [decide_eq_false h, Bool.false_eq_true, if_false, Option.bind_some]; exact ⟨trivial, by omega⟩) (fun k hk => by
    simp [F_ref13_Above_s1]) (by omega)
  have h1 := hl.1
  rw [foldl_cnt (fun f => decide (x ≤ f))] at h1
  unfold F_ref13_Above
  rw [show ((0 : Int), (0 : Int)) = (((0 : Nat) : Int), ((0 : Nat) : Int)) from rfl, h1, Option.bind_some]
  unfold aboveS
  rw [Nat.zero_add]
theorem p_IsRight13 {c : List Int} (hc : c.length ≤ 100000000) (m : Meter) : F_ref13_IsRight n m c = some (rightC m c) := by
  simp only [F_ref13_IsRight, p_Above13 hn hc, Option.bind_some]; rfl
theorem p_Wrongs {r : Run} (hm : r.Meters.length ≤ 1000) {c : List Int} (hc : c.length ≤ 100000000) : F_ref13_Wrongs n r c = some (wrongC r.Meters c : Int) := by
  have hl := loop_fold (step := F_ref13_Wrongs_s1 n r c) r.Meters (fun i (k : Nat) => ((k : Int), (i : Int))) (fun k m => if (!rightC m c) = true then k + 1 else k) (fun k => (k : Int)) (fun i k => k ≤ i) (n := n) 0 (Nat.le_refl _) (fun i m k hf hk => by
    have hi : i < r.Meters.length := (List.getElem?_eq_some_iff.1 hf).1
    simp only [F_ref13_Wrongs_s1, lt_nat, hi, decide_true, if_true, geti_nat, hf, p_IsRight13 hn hc, Option.bind_some, w64_nat (show i ≤ 4611686018427387904 by omega), w64_nat (show k ≤ 4611686018427387904 by omega)]
    cases rightC m c
    · simp only [Bool.not_false, if_true, Option.bind_some]; exact ⟨trivial, by omega⟩
    · simp only [Bool.not_true, Bool.false_eq_true, if_false, Option.bind_some]; exact ⟨trivial, by omega⟩) (fun k hk => by
    simp [F_ref13_Wrongs_s1]) (by omega)
  have h1 := hl.1
  rw [foldl_cnt (fun m => !rightC m c)] at h1
  unfold F_ref13_Wrongs
  rw [show ((0 : Int), (0 : Int)) = (((0 : Nat) : Int), ((0 : Nat) : Int)) from rfl, h1, Option.bind_some]
  unfold wrongC
  rw [Nat.zero_add]
theorem p_truths13 {r : Run} (hr : ROk r) : F_ref13_truths n r = some (truthsC r) := by
  have hnm := hr.nm; have hnb := hr.nb
  have hcl := cases_len hr
  have hl := loop_fold (step := F_ref13_truths_s1 n r (casesS r.Blows)) (casesS r.Blows) (fun i (s : List (List Int)) => ((i : Int), s)) (fun s c => if truthC r c = true then s ++ [c] else s) (fun s => s) (fun i s => s.length ≤ i) (n := n) [] (Nat.le_refl _) (fun i c s hf hk => by
    have hi : i < (casesS r.Blows).length := (List.getElem?_eq_some_iff.1 hf).1
    have hc := casesS_len (List.mem_of_getElem? hf)
    have e : lim (s ++ [c]) = some (s ++ [c]) := lim_ok (by simp; omega)
    simp only [F_ref13_truths_s1, lt_nat, hi, decide_true, if_true, geti_nat, hf, p_Wrongs hn (r := r) (c := c) (by omega) (by omega), Option.bind_some, w64_nat (show i ≤ 4611686018427387904 by omega), e]
    show _ = _ ∧ _
    by_cases h : truthC r c = true
    · have h' : decide ((wrongC r.Meters c : Int) ≤ r.Wrong) = true := h
      simp only [h, h', if_true, Option.bind_some]; exact ⟨trivial, by simp; omega⟩
    · have h' : ¬ decide ((wrongC r.Meters c : Int) ≤ r.Wrong) = true := h
      simp only [h, h', Bool.false_eq_true, if_false, Option.bind_some]; exact ⟨trivial, by omega⟩) (fun s hk => by
    simp [F_ref13_truths_s1]) (by omega)
  have h1 := hl.1
  rw [foldl_filter', List.nil_append] at h1
  simp only [F_ref13_truths, p_cases0 hn hr, Option.bind_some]
  rw [show (0 : Int) = ((0 : Nat) : Int) from rfl, h1]; rfl
def knownT (r : Run) (is : Bool) : List (List Int) × Int := if errR r is = 0 then (truthsC r, 0) else ([], errR r is)
theorem p_known {r : Run} (hs : SmallR r) (is : Bool) : F_ref13_known n r is = some (knownT r is) := by
  simp only [F_ref13_known, p_Check13 (n := n) (by omega) hs, Option.bind_some]
  by_cases hc : checkR r = 0
  · have hr := checkR_ok.1 hc
    rw [hc]
    simp only [bne_self_eq_false, Bool.false_eq_true, if_false]
    unfold knownT errR
    simp only [hc, ne_eq, not_true_eq_false, if_false]
    cases is with
    | false => simp
    | true =>
      simp only [Bool.not_true, Bool.false_eq_true, if_false, p_truths13 hn hr, Option.bind_some, reduceCtorEq]
      by_cases h : truthsC r = []
      · simp [h]
      · have : ((truthsC r).length : Int) ≠ 0 := by simpa using h
        simp [h]
  · have : (checkR r != 0) = true := by simpa using hc
    simp only [this, if_true]
    unfold knownT errR
    simp [hc]
end
theorem known_ok {r : Run} {is : Bool} (e : errR r is = 0) : knownT r is = (truthsC r, 0) := by
  unfold knownT; rw [if_pos e]
end Go.Proofs.YtcipdblhopffbaaGreat
end
section
namespace Go.Proofs.YtcipdblhopffbaaGreat
open Go Go.RowKit Go.Dec
theorem wider_first2 (n : Nat) (x : Int) (s : Span) : F_ref13_wider n s x true = some ⟨x, x⟩ := by simp [F_ref13_wider]
theorem wider_next2 (n : Nat) (x : Int) (s : Span) : F_ref13_wider n s x false = some ⟨min s.Low x, max s.High x⟩ := by simp [F_ref13_wider]
def eachS (r : Run) : List (List Int) := r.Blows.map fun b => (span b.Force.Low b.Force.High).map fun f => standsI r.Canopy [⟨f, b.At⟩]
theorem foldl_map1 {α β : Type} (g : α → β) : ∀ (l : List α) (s : List β), l.foldl (fun s x => s ++ [g x]) s = s ++ l.map g
  | [], s => by simp
  | a :: l, s => by rw [List.foldl_cons, foldl_map1 g l]; simp
theorem span_get {a b x : Int} (h1 : a ≤ x) (h2 : x ≤ b) : (span a b)[(x - a).toNat]? = some x := by
  unfold span
  rw [List.getElem?_map, List.getElem?_range (by omega)]
  simp only [Option.map_some, Option.some.injEq]
  omega
section
variable {n : Nat} (hn : 200000000 ≤ n)
include hn
theorem p_stands13 {r : Run} (hr : ROk r) : F_ref13_stands n r = some (eachS r) := by
  have hnb := hr.nb
  have hd := hr.d
  have hl := loop_fold (step := F_ref13_stands_s1 n r) r.Blows (fun i (s : List (List Int)) => ((i : Int), s)) (fun s b => s ++ [(span b.Force.Low b.Force.High).map fun f => standsI r.Canopy [⟨f, b.At⟩]]) (fun s => s) (fun i s => s.length ≤ i) (n := n) [] (Nat.le_refl _) (fun i b s hb hI => by
    have hi : i < r.Blows.length := (List.getElem?_eq_some_iff.1 hb).1
    have hbo := hr.b b (List.mem_of_getElem? hb)
    have h1 := hbo.lo; have h2 := hbo.le; have h3 := hbo.hi; have h4 := hbo.gap
    have hin := loop_span (step := F_ref13_stands_s2 n r (i : Int)) (hi := b.Force.High) (fun s f => s ++ [standsI r.Canopy [⟨f, b.At⟩]]) (fun s => s) (fun f s => b.Force.Low ≤ f ∧ s.length ≤ (f - b.Force.Low).toNat) _ b.Force.Low [] n rfl ⟨Int.le_refl _, by simp⟩ (fun f s k1 k2 hI => by
      have hg := stands_at hd hbo k1 k2
      have hlim : lim (s ++ [standsI r.Canopy [⟨f, b.At⟩]]) = some (s ++ [standsI r.Canopy [⟨f, b.At⟩]]) := lim_ok (by rw [List.length_append, List.length_singleton]; omega)
      refine ⟨?_, by omega, by rw [List.length_append, List.length_singleton]; omega⟩
      simp only [F_ref13_stands_s2, geti_nat, hb, Option.bind_some, decide_eq_true k2, if_true, p_Stands05 (n := n) (by omega) hd.small (l := [⟨f, b.At⟩]) (by simp), standsT_at hd hg, hlim, w64_id (show -9223372036854775808 ≤ f + 1 by omega) (show f + 1 ≤ 9223372036854775807 by omega)]) (fun f s hf => by
      simp only [F_ref13_stands_s2, geti_nat, hb, Option.bind_some, decide_eq_false (show ¬ f ≤ b.Force.High by omega), Bool.false_eq_true, if_false]) (by omega)
    rw [foldl_map1, List.nil_append] at hin
    have hlim : lim (s ++ [(span b.Force.Low b.Force.High).map fun f => standsI r.Canopy [⟨f, b.At⟩]]) = some (s ++ [(span b.Force.Low b.Force.High).map fun f => standsI r.Canopy [⟨f, b.At⟩]]) := lim_ok (by rw [List.length_append, List.length_singleton]; omega)
    refine ⟨?_, by rw [List.length_append, List.length_singleton]; omega⟩
    simp only [F_ref13_stands_s1, lt_nat, hi, decide_true, if_true, geti_nat, hb, Option.bind_some, hin, hlim, w64_nat (show i ≤ 4611686018427387904 by omega)]) (fun s hI => by
    simp [F_ref13_stands_s1]) (by omega)
  have h1 := hl.1
  rw [foldl_map1, List.nil_append] at h1
  simp only [F_ref13_stands]
  rw [show (0 : Int) = ((0 : Nat) : Int) from rfl, h1]; rfl
theorem p_harm {r : Run} (hr : ROk r) {c : List Int} (hc : c ∈ casesS r.Blows) : F_ref13_harm n r (eachS r) c = some ((askN (fellA r.Canopy true) r.Blows c : Int), (askN (fellA r.Canopy false) r.Blows c : Int)) := by
  have hnb := hr.nb
  have hcl := casesS_len hc
  have hzl : (r.Blows.zip c).length = c.length := by rw [List.length_zip]; omega
  have hloop := loop_run (step := F_ref13_harm_s1 n r (eachS r) c) (fun j => ((((r.Blows.zip c).take j).countP (fun p => fellA r.Canopy true p.1 p.2) : Int), (((r.Blows.zip c).take j).countP (fun p => fellA r.Canopy false p.1 p.2) : Int), (j : Int))) (r := (((r.Blows.zip c).countP (fun p => fellA r.Canopy true p.1 p.2) : Int), ((r.Blows.zip c).countP (fun p => fellA r.Canopy false p.1 p.2) : Int))) c.length 0 n (fun j _ hj => by
    have hj : j < c.length := by omega
    have hjb : j < r.Blows.length := by omega
    have hxj : c[j]? = some c[j] := List.getElem?_eq_getElem hj
    have hyj : r.Blows[j]? = some r.Blows[j] := List.getElem?_eq_getElem hjb
    have hzip : (r.Blows.zip c)[j]? = some (r.Blows[j], c[j]) := List.getElem?_zip_eq_some.2 ⟨hyj, hxj⟩
    have hin := (mem_cases.1 hc).2 j _ _ hyj hxj
    have hbo := hr.b _ (List.getElem_mem hjb)
    have h1 := hbo.lo; have h3 := hbo.hi
    generalize r.Blows[j] = b at *
    generalize c[j] = f at *
    have he : (eachS r)[j]? = some ((span b.Force.Low b.Force.High).map fun f => standsI r.Canopy [⟨f, b.At⟩]) := by
      unfold eachS; rw [List.getElem?_map, hyj]; rfl
    have hg : geti ((span b.Force.Low b.Force.High).map fun f => standsI r.Canopy [⟨f, b.At⟩]) (w64 (f - b.Force.Low)) = some (standsI r.Canopy [⟨f, b.At⟩]) := by
      rw [w64_id (by omega) (by omega), show f - b.Force.Low = (((f - b.Force.Low).toNat : Nat) : Int) by omega, geti_nat, List.getElem?_map, span_get hin.1 hin.2]; rfl
    have c1 : ((r.Blows.zip c).take j).countP (fun p => fellA r.Canopy true p.1 p.2) ≤ j := Nat.le_trans List.countP_le_length (by rw [List.length_take]; omega)
    have c2 : ((r.Blows.zip c).take j).countP (fun p => fellA r.Canopy false p.1 p.2) ≤ j := Nat.le_trans List.countP_le_length (by rw [List.length_take]; omega)
    simp only [F_ref13_harm_s1, lt_nat, hj, decide_true, if_true, geti_nat, he, hxj, hyj, hg, Option.bind_some, w64_nat (show j ≤ 4611686018427387904 by omega), List.take_add_one, hzip, Option.toList_some, List.countP_append, List.countP_singleton]
    rcases stands_val r.Canopy [⟨f, b.At⟩] with h | h | h
    · have e1 : fellA r.Canopy true b f = false := by simp [fellA, h]
      have e2 : fellA r.Canopy false b f = false := by simp [fellA, h]
      simp [h, e1, e2]
    · have e1 : fellA r.Canopy true b f = true := by simp [fellA, h]
      have e2 : fellA r.Canopy false b f = true := by simp [fellA, h]
      simp only [h, e1, e2, beq_self_eq_true, if_true, Option.bind_some]
      rw [w64_nat (by omega), w64_nat (by omega)]
    · have e1 : fellA r.Canopy true b f = false := by simp [fellA, h]
      have e2 : fellA r.Canopy false b f = true := by simp [fellA, h]
      simp only [h, e1, e2, show ((3 : Int) == 2) = false from rfl, beq_self_eq_true, if_true, Bool.false_eq_true, if_false, Option.bind_some, Nat.add_zero]
      rw [w64_nat (by omega)]) (by
    rw [Nat.zero_add, List.take_of_length_le (by omega)]
    simp [F_ref13_harm_s1]) (by omega)
  simp only [List.take_zero, List.countP_nil, show ((0 : Nat) : Int) = 0 from rfl] at hloop
  simp only [F_ref13_harm, hloop, Option.bind_some]
  rfl
theorem p_HarmR {r : Run} (hs : SmallR r) : F_ref13_Harm n r = some (harmT r) := by
  simp only [F_ref13_Harm, p_known hn hs, Option.bind_some]
  unfold harmT
  by_cases e : errR r true = 0
  · obtain ⟨hr, _, hne⟩ := errR_ok e
    have hnb := hr.nb
    have htl := truths_len hr
    rw [known_ok e, if_pos e]
    simp only [bne_self_eq_false, Bool.false_eq_true, if_false, p_stands13 hn hr, Option.bind_some]
    have key := loop_run (step := F_ref13_Harm_s1 n r (truthsC r, 0) (eachS r)) (fun j => if j = 0 then ((0 : Int), (0 : Int), (0 : Int)) else ((j : Int), fmin (fun c => (askN (fellA r.Canopy true) r.Blows c : Int)) ((truthsC r).take j) r.Blows.length, fmax (fun c => (askN (fellA r.Canopy false) r.Blows c : Int)) ((truthsC r).take j) 0)) (r := (fmin (fun c => (askN (fellA r.Canopy true) r.Blows c : Int)) (truthsC r) r.Blows.length, fmax (fun c => (askN (fellA r.Canopy false) r.Blows c : Int)) (truthsC r) 0)) (truthsC r).length 0 n (fun j _ hj => by
      have hj : j < (truthsC r).length := by omega
      obtain ⟨c, hf⟩ : ∃ c, (truthsC r)[j]? = some c := ⟨_, List.getElem?_eq_getElem hj⟩
      have hcase := truth_case (List.mem_of_getElem? hf)
      have h1 := askN_le (fellA r.Canopy true) r.Blows c
      have h3 : askN (fellA r.Canopy true) r.Blows c ≤ askN (fellA r.Canopy false) r.Blows c := askN_mono fun p _ h => fell_tf h
      have ht : (truthsC r).take (j + 1) = (truthsC r).take j ++ [c] := by rw [List.take_add_one, hf]; rfl
      rw [if_neg (show ¬ j + 1 = 0 by omega), ht]
      unfold fmin fmax
      rw [List.foldl_append, List.foldl_append]
      rcases Nat.eq_zero_or_pos j with h0 | h0
      · subst h0
        have hg : geti (truthsC r) 0 = some c := by
          have := geti_nat (truthsC r) 0
          rw [show ((0 : Nat) : Int) = 0 from rfl] at this
          rw [this]; exact hf
        have hlt : (0 : Int) < ((truthsC r).length : Int) := by omega
        have hw1 : w64 (0 + 1) = 1 := by decide
        simp only [if_true, F_ref13_Harm_s1, decide_eq_true hlt, hg, p_harm hn hr hcase, Option.bind_some, beq_self_eq_true, wider_first2, wider_next2, hw1, List.take_zero, List.foldl_nil, List.foldl_cons]
        rw [Int.min_eq_left (by omega), Int.max_eq_right (by omega), Int.min_eq_right (by omega), Int.max_eq_right (by omega)]
        rfl
      · have hz : ((j : Int) == 0) = false := by rw [beq_eq_false_iff_ne]; omega
        simp only [if_neg (show ¬ j = 0 by omega), F_ref13_Harm_s1, lt_nat, hj, decide_true, if_true, geti_nat, hf, p_harm hn hr hcase, Option.bind_some, hz, wider_next2, w64_nat (show j ≤ 4611686018427387904 by omega), List.foldl_nil, List.foldl_cons]
        generalize ((truthsC r).take j).foldl (fun s x => min s (askN (fellA r.Canopy true) r.Blows x : Int)) (r.Blows.length : Int) = A
        generalize ((truthsC r).take j).foldl (fun s x => max s (askN (fellA r.Canopy false) r.Blows x : Int)) 0 = Z
        have g1 : min (min A (askN (fellA r.Canopy true) r.Blows c : Int)) (askN (fellA r.Canopy false) r.Blows c : Int) = min A (askN (fellA r.Canopy true) r.Blows c : Int) := by omega
        have g2 : max (max Z (askN (fellA r.Canopy true) r.Blows c : Int)) (askN (fellA r.Canopy false) r.Blows c : Int) = max Z (askN (fellA r.Canopy false) r.Blows c : Int) := by omega
        rw [g1, g2]) (by
      have hpos : 0 < (truthsC r).length := List.length_pos_iff.2 hne
      rw [Nat.zero_add, if_neg (by omega), List.take_length]
      simp [F_ref13_Harm_s1]) (by omega)
    simp only [if_true] at key
    rw [key]; rfl
  · unfold knownT
    have : (errR r true != 0) = true := by simpa using e
    simp only [if_neg e, this, if_true]
theorem p_StoodR {r : Run} (hs : SmallR r) : F_ref13_Stood n r = some (stoodT r) := by
  simp only [F_ref13_Stood, p_HarmR hn hs, Option.bind_some, harm_err]
  unfold stoodT
  by_cases e : errR r true = 0
  · rw [if_pos e]
    simp only [e, bne_self_eq_false, Bool.false_eq_true, if_false]
    by_cases h1 : (harmT r).1.High = 0
    · simp [h1]
    · by_cases h2 : 0 < (harmT r).1.Low
      · simp [h1, h2]
      · simp [h1, h2]
  · have : (errR r true != 0) = true := by simpa using e
    simp only [if_neg e, this, if_true]
theorem p_CheckShow2 {r : Run} (hs : SmallR r) : F_ref13_CheckShow n r = some (errR r true) := by
  simp only [F_ref13_CheckShow, p_known hn hs, Option.bind_some, knownT]
  split
  · rename_i h; simp [h]
  · rfl
omit hn in
theorem show_inner {r : Run} {i : Nat} {hi : Int} {out : List Int} {step : Int → Option (Int ⊕ ((List Section × Int × Int × Int × Int × Int × Int × List Span × List Int × List Blow × List Meter × Int × List Int) ⊕ Unit))} (lo0 : Int)
    (h : ∀ f, lo0 ≤ f → f ≤ hi → step f = if errR (fixedS r (i : Int) f) true = 0 then some (.inr (.inl (r.Canopy.Frame.Sections, r.Canopy.Frame.Low, r.Canopy.Frame.High, r.Canopy.Frame.Ease.Num, r.Canopy.Frame.Ease.Den, r.Canopy.Frame.Rod, r.Canopy.Frame.Case, r.Canopy.Ribs, r.Canopy.Shares, (fixedS r (i : Int) f).Blows, r.Meters, r.Wrong, out ++ [f]))) else some (.inl (f + 1))) :
    ∀ (k : Nat) (lo : Int) (m : Nat), (hi + 1 - lo).toNat = k → lo0 ≤ lo → (∃ f, lo ≤ f ∧ f ≤ hi ∧ errR (fixedS r (i : Int) f) true = 0) → k < m →
      ∃ f, lo0 ≤ f ∧ f ≤ hi ∧ errR (fixedS r (i : Int) f) true = 0 ∧ loopO m step lo = some (.inl (r.Canopy.Frame.Sections, r.Canopy.Frame.Low, r.Canopy.Frame.High, r.Canopy.Frame.Ease.Num, r.Canopy.Frame.Ease.Den, r.Canopy.Frame.Rod, r.Canopy.Frame.Case, r.Canopy.Ribs, r.Canopy.Shares, (fixedS r (i : Int) f).Blows, r.Meters, r.Wrong, out ++ [f])) := by
  intro k
  induction k with
  | zero =>
    rintro lo m hk _ ⟨f, h1, h2, _⟩ _
    omega
  | succ k ih =>
    rintro lo m hk hlo ⟨f, h1, h2, h3⟩ hm
    obtain ⟨m, rfl⟩ : ∃ k, m = k + 1 := ⟨m - 1, by omega⟩
    by_cases hg : errR (fixedS r (i : Int) lo) true = 0
    · refine ⟨lo, hlo, by omega, hg, ?_⟩
      exact loop_done (by rw [h lo hlo (by omega), if_pos hg]) (by omega)
    · have hne : lo ≠ f := fun e => hg (by rw [e]; exact h3)
      obtain ⟨f', a1, a2, a3, a4⟩ := ih (lo + 1) m (by omega) (by omega) ⟨f, by omega, h2, h3⟩ (by omega)
      refine ⟨f', a1, a2, a3, ?_⟩
      rw [loopO_succ, h lo hlo (by omega), if_neg hg]
      exact a4
theorem p_Show {r : Run} (hs : SmallR r) : ∃ l, F_counts_Show n r = some (l, errR r true) ∧ (errR r true = 0 → l ∈ truthsC r) ∧ (errR r true ≠ 0 → l = []) := by
  have hn1 : 100000000 ≤ n := by omega
  have hop : ∀ (q : Run), SmallR q → ∃ z, F_counts_open n q true (fun a0_ a1_ => F_counts_none n a0_ a1_) = some z ∧ z.2.2 = errR q true := fun q hq => by
    refine ⟨_, p_openN hn1 hq true, ?_⟩
    split
    · rename_i h; simp [h]
    · rfl
  obtain ⟨z, hz1, hz2⟩ := hop r hs
  by_cases e : errR r true = 0
  · obtain ⟨hr, _, hne⟩ := errR_ok e
    have hnb := hr.nb
    have key : ∀ (k i m : Nat) (q : Run) (out : List Int), i + k = r.Blows.length → k < m → ROk q → q.Canopy = r.Canopy → q.Meters = r.Meters → q.Wrong = r.Wrong → q.Blows.length = r.Blows.length → (∀ j, i ≤ j → q.Blows[j]? = r.Blows[j]?) → out.length = i → (∀ c, c ∈ truthsC q ↔ c ∈ truthsC r ∧ ∀ j, j < i → c[j]? = out[j]?) → truthsC q ≠ [] →
        ∃ l, loopO m (F_counts_Show_s1 n r) ((i : Int), q.Canopy.Frame.Sections, q.Canopy.Frame.Low, q.Canopy.Frame.High, q.Canopy.Frame.Ease.Num, q.Canopy.Frame.Ease.Den, q.Canopy.Frame.Rod, q.Canopy.Frame.Case, q.Canopy.Ribs, q.Canopy.Shares, q.Blows, q.Meters, q.Wrong, out) = some l ∧ l ∈ truthsC r := by
      intro k
      induction k with
      | zero =>
        intro i m q out hi hm hq hqc hqm hqw hql hqb hol hqt hqn
        refine ⟨out, loop_done (by
          simp only [F_counts_Show_s1, lt_nat, show ¬ i < r.Blows.length by omega, decide_false, Bool.false_eq_true, if_false]) hm, ?_⟩
        obtain ⟨c, hc⟩ := List.exists_mem_of_ne_nil _ hqn
        obtain ⟨h1, h2⟩ := (hqt c).1 hc
        have hcl := casesS_len (truth_case h1)
        have : c = out := by
          apply List.ext_getElem?
          intro j
          rcases Nat.lt_or_ge j i with hj | hj
          · exact h2 j hj
          · rw [List.getElem?_eq_none (by omega), List.getElem?_eq_none (by omega)]
        rw [← this]; exact h1
      | succ k ih =>
        intro i m q out hi hm hq hqc hqm hqw hql hqb hol hqt hqn
        obtain ⟨m, rfl⟩ : ∃ k, m = k + 1 := ⟨m - 1, by omega⟩
        have hil : i < r.Blows.length := by omega
        have hbi : r.Blows[i]? = some r.Blows[i] := List.getElem?_eq_getElem hil
        have hbq : q.Blows[i]? = some r.Blows[i] := by rw [hqb i (Nat.le_refl _)]; exact hbi
        have hba : blowAt q (i : Int) = r.Blows[i] := blowAt_of (by rw [Int.toNat_natCast]; exact hbq)
        have hbo := hr.b _ (List.getElem_mem hil)
        have h1 := hbo.lo; have h2 := hbo.le; have h3 := hbo.hi; have h4 := hbo.gap
        generalize r.Blows[i] = b at *
        obtain ⟨c, hc⟩ := List.exists_mem_of_ne_nil _ hqn
        have hcl := casesS_len (truth_case hc)
        have hci : c[i]? = some (c[i]'(by omega)) := List.getElem?_eq_getElem (by omega)
        have hcin := (mem_cases.1 (truth_case hc)).2 i _ _ hbq hci
        have hfe := fun f (k1 : b.Force.Low ≤ f) (k2 : f ≤ b.Force.High) => fixed_err hq (i := (i : Int)) (by omega) (by omega) (f := f) (by rw [hba]; exact k1) (by rw [hba]; exact k2)
        obtain ⟨f, f1, f2, f3, f4⟩ := show_inner (r := q) (i := i) (hi := b.Force.High) (out := out) (step := F_counts_Show_s2 n (i : Int) q.Canopy.Frame.Sections q.Canopy.Frame.Low q.Canopy.Frame.High q.Canopy.Frame.Ease.Num q.Canopy.Frame.Ease.Den q.Canopy.Frame.Rod q.Canopy.Frame.Case q.Canopy.Ribs q.Canopy.Shares q.Blows q.Meters q.Wrong out b) b.Force.Low (fun f k1 k2 => by
          have hfo := fixed_ok hq (i := (i : Int)) (by omega) (by omega) (f := f) (by rw [hba]; exact k1) (by rw [hba]; exact k2)
          obtain ⟨z, hz1, hz2⟩ := hop _ hfo.small
          have hlim : lim (out ++ [f]) = some (out ++ [f]) := lim_ok (by rw [List.length_append, List.length_singleton]; omega)
          have hfx := p_fixed hn1 hq.small (i := (i : Int)) (by omega) (by omega) f
          simp only [F_counts_Show_s2, decide_eq_true k2, if_true]
          show ((F_counts_fixed n q (i : Int) f).bind _) = _
          simp only [hfx, Option.bind_some, hz1, hz2, hlim, w64_id (show -9223372036854775808 ≤ f + 1 by omega) (show f + 1 ≤ 9223372036854775807 by omega)]
          by_cases hg : errR (fixedS q (i : Int) f) true = 0
          · simp only [hg, beq_self_eq_true, if_true]; rfl
          · have : (errR (fixedS q (i : Int) f) true == 0) = false := by simpa using hg
            simp only [this, if_neg hg, Bool.false_eq_true, if_false]) _ b.Force.Low n rfl (Int.le_refl _) ⟨c[i]'(by omega), hcin.1, hcin.2, (hfe _ hcin.1 hcin.2).2 ⟨c, hc, by rw [Int.toNat_natCast]; exact hci⟩⟩ (by omega)
        have hfo := fixed_ok hq (i := (i : Int)) (by omega) (by omega) (f := f) (by rw [hba]; exact f1) (by rw [hba]; exact f2)
        have hst : F_counts_Show_s1 n r ((i : Int), q.Canopy.Frame.Sections, q.Canopy.Frame.Low, q.Canopy.Frame.High, q.Canopy.Frame.Ease.Num, q.Canopy.Frame.Ease.Den, q.Canopy.Frame.Rod, q.Canopy.Frame.Case, q.Canopy.Ribs, q.Canopy.Shares, q.Blows, q.Meters, q.Wrong, out) = some (.inl (((i + 1 : Nat) : Int), q.Canopy.Frame.Sections, q.Canopy.Frame.Low, q.Canopy.Frame.High, q.Canopy.Frame.Ease.Num, q.Canopy.Frame.Ease.Den, q.Canopy.Frame.Rod, q.Canopy.Frame.Case, q.Canopy.Ribs, q.Canopy.Shares, (fixedS q (i : Int) f).Blows, q.Meters, q.Wrong, out ++ [f])) := by
          simp only [F_counts_Show_s1, lt_nat, hil, decide_true, if_true, geti_nat, hbi, Option.bind_some, f4, w64_nat (show i ≤ 4611686018427387904 by omega)]
        rw [loopO_succ, hst]
        have hfl : (fixedS q (i : Int) f).Blows.length = q.Blows.length := setx_len _ _ _
        refine ih (i + 1) m (fixedS q (i : Int) f) (out ++ [f]) (by omega) (by omega) hfo hqc hqm hqw (by rw [hfl, hql]) (fun j hj => ?_) (by rw [List.length_append, hol]; rfl) (fun c => ?_) ((errR_ok f3).2.2)
        · show (setx q.Blows (i : Int) _)[j]? = _
          rw [setx_get (by omega), if_neg (by omega)]
          exact hqb j (by omega)
        · rw [fixed_truths (by omega) (by omega) (by rw [hba]; exact f1) (by rw [hba]; exact f2), hqt c, Int.toNat_natCast]
          constructor
          · rintro ⟨⟨c1, c2⟩, c3⟩
            refine ⟨c1, fun j hj => ?_⟩
            rcases Nat.lt_or_ge j i with hji | hji
            · rw [List.getElem?_append_left (by omega)]; exact c2 j hji
            · obtain rfl : j = i := by omega
              rw [List.getElem?_append_right (by omega), c3, hol, Nat.sub_self]; rfl
          · rintro ⟨c1, c2⟩
            refine ⟨⟨c1, fun j hj => ?_⟩, ?_⟩
            · rw [c2 j (by omega), List.getElem?_append_left (by omega)]
            · rw [c2 i (by omega), List.getElem?_append_right (by omega), hol, Nat.sub_self]; rfl
    obtain ⟨l, hl1, hl2⟩ := key r.Blows.length 0 n r [] (by omega) (by omega) hr rfl rfl rfl rfl (fun _ _ => rfl) rfl (fun c => by simp) hne
    refine ⟨l, ?_, fun _ => hl2, fun h => absurd e h⟩
    simp only [F_counts_Show, hz1, Option.bind_some, hz2, e, bne_self_eq_false, Bool.false_eq_true, if_false]
    rw [show (0 : Int) = ((0 : Nat) : Int) from rfl, hl1]; rfl
  · refine ⟨[], ?_, fun h => absurd h e, fun _ => rfl⟩
    have : (errR r true != 0) = true := by simpa using e
    simp only [F_counts_Show, hz1, Option.bind_some, hz2, this, if_true]
theorem isCase_of {r : Run} (hr : ROk r) {c : List Int} (hc : c ∈ casesS r.Blows) : F_ref13_IsCase n r c = some true := by
  have hnb := hr.nb
  have hcl := casesS_len hc
  have kk := loop_all (step := F_ref13_IsCase_s1 n r c) c.length (fun _ => true) false (n := n) (by omega) (fun i hi => by
    have h2 : i < r.Blows.length := by omega
    have hx : c[i]? = some c[i] := List.getElem?_eq_getElem hi
    have hy : r.Blows[i]? = some r.Blows[i] := List.getElem?_eq_getElem h2
    have hin := (mem_cases.1 hc).2 i _ _ hy hx
    simp only [F_ref13_IsCase_s1, lt_nat, hi, h2, decide_true, Bool.and_self, if_true, geti_nat, hx, hy, Option.bind_some, p_within13, wi_t.2 hin, Bool.not_true, Bool.false_eq_true, if_false, w64_nat (show i ≤ 4611686018427387904 by omega), cond_true]) (by
    simp [F_ref13_IsCase_s1]) (by omega)
  unfold F_ref13_IsCase
  have e : ((List.range c.length).all fun _ => true) = true := by simp
  rw [kk, e]
  simp [hcl]
end
end Go.Proofs.YtcipdblhopffbaaGreat
end
section
namespace Go.Dec
open Go Go.RowKit
theorem Kept.plain {H : Hp} {w w' : World} (h : Kept H w w') (hh : H.hole = none) : Below w.heap.size w w' :=
  ⟨h.below.os, h.below.tape, h.below.output, h.below.size, fun k hk => h.below.block k hk (fun I e => by rw [hh] at e; cases e)⟩
end Go.Dec
end
section
namespace Go.Proofs.YtcipdblhopffbaaGreat
open Go Go.RowKit Go.Dec
set_option linter.unusedVariables false
def W_Span (x : Span) : Prop := I64 x.Low ∧ I64 x.High
set_option maxRecDepth 100000 in
theorem o_Span {T : Type} {enc : TypeId × Value → T} : Opens enc Tryz.prog 42 2 R_Span W_Span := by
  intro w base sp held fuel cs y h
  obtain ⟨xs, n, _, rfl, hl, hlen, hf⟩ := DataW.trod_struct Tryz.underlying42 h
  have hl2 : cs.length = 2 := hl.trans (by kernel_rfl)
  have hx : xs.length = 2 := hlen
  obtain ⟨c0, c1, rfl⟩ : ∃ c0 c1, cs = [c0, c1] := by
    match cs, hl2 with
    | [c0, c1], _ => exact ⟨_, _, rfl⟩
  have co3 : Tryz.prog.cellsOf 3 = 1 := by kernel_rfl
  have e0 : DataW.trod enc Tryz.prog w base sp held n 3 (([c0, c1].drop 0).take (Tryz.prog.cellsOf 3)) = xs[0]? := hf 0 _ rfl
  rw [co3] at e0
  obtain ⟨_, x0, r0, w0⟩ := (Opens.int (by kernel_rfl)) _ _ _ _ _ _ _ (e0.trans (List.getElem?_eq_getElem (by omega)))
  have e1 : DataW.trod enc Tryz.prog w base sp held n 3 (([c0, c1].drop 1).take (Tryz.prog.cellsOf 3)) = xs[1]? := hf 1 _ rfl
  rw [co3] at e1
  obtain ⟨_, x1, r1, w1⟩ := (Opens.int (by kernel_rfl)) _ _ _ _ _ _ _ (e1.trans (List.getElem?_eq_getElem (by omega)))
  have q0 : [c0] = [_] := r0
  cases q0
  have q1 : [c1] = [_] := r1
  cases q1
  exact ⟨rfl, ⟨x0, x1⟩, rfl, w0, w1⟩
def W_Frac (x : Frac) : Prop := I64 x.Num ∧ I64 x.Den
set_option maxRecDepth 100000 in
theorem o_Frac {T : Type} {enc : TypeId × Value → T} : Opens enc Tryz.prog 24 2 R_Frac W_Frac := by
  intro w base sp held fuel cs y h
  obtain ⟨xs, n, _, rfl, hl, hlen, hf⟩ := DataW.trod_struct Tryz.underlying24 h
  have hl2 : cs.length = 2 := hl.trans (by kernel_rfl)
  have hx : xs.length = 2 := hlen
  obtain ⟨c0, c1, rfl⟩ : ∃ c0 c1, cs = [c0, c1] := by
    match cs, hl2 with
    | [c0, c1], _ => exact ⟨_, _, rfl⟩
  have co3 : Tryz.prog.cellsOf 3 = 1 := by kernel_rfl
  have e0 : DataW.trod enc Tryz.prog w base sp held n 3 (([c0, c1].drop 0).take (Tryz.prog.cellsOf 3)) = xs[0]? := hf 0 _ rfl
  rw [co3] at e0
  obtain ⟨_, x0, r0, w0⟩ := (Opens.int (by kernel_rfl)) _ _ _ _ _ _ _ (e0.trans (List.getElem?_eq_getElem (by omega)))
  have e1 : DataW.trod enc Tryz.prog w base sp held n 3 (([c0, c1].drop 1).take (Tryz.prog.cellsOf 3)) = xs[1]? := hf 1 _ rfl
  rw [co3] at e1
  obtain ⟨_, x1, r1, w1⟩ := (Opens.int (by kernel_rfl)) _ _ _ _ _ _ _ (e1.trans (List.getElem?_eq_getElem (by omega)))
  have q0 : [c0] = [_] := r0
  cases q0
  have q1 : [c1] = [_] := r1
  cases q1
  exact ⟨rfl, ⟨x0, x1⟩, rfl, w0, w1⟩
def W_Section (x : Section) : Prop := W_Span x.Arm ∧ W_Span x.Stretch ∧ I64 x.Base ∧ W_Frac x.Gear
set_option maxRecDepth 100000 in
theorem o_Section {T : Type} {enc : TypeId × Value → T} : Opens enc Tryz.prog 124 7 R_Section W_Section := by
  intro w base sp held fuel cs y h
  obtain ⟨xs, n, _, rfl, hl, hlen, hf⟩ := DataW.trod_struct Tryz.underlying124 h
  have hl2 : cs.length = 7 := hl.trans (by kernel_rfl)
  have hx : xs.length = 4 := hlen
  obtain ⟨c0, c1, c2, c3, c4, c5, c6, rfl⟩ : ∃ c0 c1 c2 c3 c4 c5 c6, cs = [c0, c1, c2, c3, c4, c5, c6] := by
    match cs, hl2 with
    | [c0, c1, c2, c3, c4, c5, c6], _ => exact ⟨_, _, _, _, _, _, _, rfl⟩
  have co3 : Tryz.prog.cellsOf 3 = 1 := by kernel_rfl
  have co24 : Tryz.prog.cellsOf 24 = 2 := by kernel_rfl
  have co42 : Tryz.prog.cellsOf 42 = 2 := by kernel_rfl
  have e0 : DataW.trod enc Tryz.prog w base sp held n 42 (([c0, c1, c2, c3, c4, c5, c6].drop 0).take (Tryz.prog.cellsOf 42)) = xs[0]? := hf 0 _ rfl
  rw [co42] at e0
  obtain ⟨_, x0, r0, w0⟩ := o_Span _ _ _ _ _ _ _ (e0.trans (List.getElem?_eq_getElem (by omega)))
  have e1 : DataW.trod enc Tryz.prog w base sp held n 42 (([c0, c1, c2, c3, c4, c5, c6].drop 2).take (Tryz.prog.cellsOf 42)) = xs[1]? := hf 1 _ rfl
  rw [co42] at e1
  obtain ⟨_, x1, r1, w1⟩ := o_Span _ _ _ _ _ _ _ (e1.trans (List.getElem?_eq_getElem (by omega)))
  have e2 : DataW.trod enc Tryz.prog w base sp held n 3 (([c0, c1, c2, c3, c4, c5, c6].drop 4).take (Tryz.prog.cellsOf 3)) = xs[2]? := hf 2 _ rfl
  rw [co3] at e2
  obtain ⟨_, x2, r2, w2⟩ := (Opens.int (by kernel_rfl)) _ _ _ _ _ _ _ (e2.trans (List.getElem?_eq_getElem (by omega)))
  have e3 : DataW.trod enc Tryz.prog w base sp held n 24 (([c0, c1, c2, c3, c4, c5, c6].drop 5).take (Tryz.prog.cellsOf 24)) = xs[3]? := hf 3 _ rfl
  rw [co24] at e3
  obtain ⟨_, x3, r3, w3⟩ := o_Frac _ _ _ _ _ _ _ (e3.trans (List.getElem?_eq_getElem (by omega)))
  have q0 : [c0, c1] = _ := r0
  cases q0
  have q1 : [c2, c3] = _ := r1
  cases q1
  have q2 : [c4] = [_] := r2
  cases q2
  have q3 : [c5, c6] = _ := r3
  cases q3
  exact ⟨rfl, ⟨x0, x1, x2, x3⟩, rfl, w0, w1, w2, w3⟩
def W_Frame (x : Frame) : Prop := (fun (l : List Section) => (∀ x ∈ l, W_Section x) ∧ l.length ≤ 9223372036854775807) x.Sections ∧ I64 x.Low ∧ I64 x.High ∧ W_Frac x.Ease ∧ I64 x.Rod ∧ I64 x.Case
set_option maxRecDepth 100000 in
theorem o_Frame {T : Type} {enc : TypeId × Value → T} : Opens enc Tryz.prog 26 7 R_Frame W_Frame := by
  intro w base sp held fuel cs y h
  obtain ⟨xs, n, _, rfl, hl, hlen, hf⟩ := DataW.trod_struct Tryz.underlying26 h
  have hl2 : cs.length = 7 := hl.trans (by kernel_rfl)
  have hx : xs.length = 6 := hlen
  obtain ⟨c0, c1, c2, c3, c4, c5, c6, rfl⟩ : ∃ c0 c1 c2 c3 c4 c5 c6, cs = [c0, c1, c2, c3, c4, c5, c6] := by
    match cs, hl2 with
    | [c0, c1, c2, c3, c4, c5, c6], _ => exact ⟨_, _, _, _, _, _, _, rfl⟩
  have co3 : Tryz.prog.cellsOf 3 = 1 := by kernel_rfl
  have co22 : Tryz.prog.cellsOf 22 = 1 := by kernel_rfl
  have co24 : Tryz.prog.cellsOf 24 = 2 := by kernel_rfl
  have e0 : DataW.trod enc Tryz.prog w base sp held n 22 (([c0, c1, c2, c3, c4, c5, c6].drop 0).take (Tryz.prog.cellsOf 22)) = xs[0]? := hf 0 _ rfl
  rw [co22] at e0
  obtain ⟨_, x0, r0, w0⟩ := (Opens.slice (e := 124) (sz := 7) (by kernel_rfl) (by kernel_rfl) rfl o_Section) _ _ _ _ _ _ _ (e0.trans (List.getElem?_eq_getElem (by omega)))
  have e1 : DataW.trod enc Tryz.prog w base sp held n 3 (([c0, c1, c2, c3, c4, c5, c6].drop 1).take (Tryz.prog.cellsOf 3)) = xs[1]? := hf 1 _ rfl
  rw [co3] at e1
  obtain ⟨_, x1, r1, w1⟩ := (Opens.int (by kernel_rfl)) _ _ _ _ _ _ _ (e1.trans (List.getElem?_eq_getElem (by omega)))
  have e2 : DataW.trod enc Tryz.prog w base sp held n 3 (([c0, c1, c2, c3, c4, c5, c6].drop 2).take (Tryz.prog.cellsOf 3)) = xs[2]? := hf 2 _ rfl
  rw [co3] at e2
  obtain ⟨_, x2, r2, w2⟩ := (Opens.int (by kernel_rfl)) _ _ _ _ _ _ _ (e2.trans (List.getElem?_eq_getElem (by omega)))
  have e3 : DataW.trod enc Tryz.prog w base sp held n 24 (([c0, c1, c2, c3, c4, c5, c6].drop 3).take (Tryz.prog.cellsOf 24)) = xs[3]? := hf 3 _ rfl
  rw [co24] at e3
  obtain ⟨_, x3, r3, w3⟩ := o_Frac _ _ _ _ _ _ _ (e3.trans (List.getElem?_eq_getElem (by omega)))
  have e4 : DataW.trod enc Tryz.prog w base sp held n 3 (([c0, c1, c2, c3, c4, c5, c6].drop 5).take (Tryz.prog.cellsOf 3)) = xs[4]? := hf 4 _ rfl
  rw [co3] at e4
  obtain ⟨_, x4, r4, w4⟩ := (Opens.int (by kernel_rfl)) _ _ _ _ _ _ _ (e4.trans (List.getElem?_eq_getElem (by omega)))
  have e5 : DataW.trod enc Tryz.prog w base sp held n 3 (([c0, c1, c2, c3, c4, c5, c6].drop 6).take (Tryz.prog.cellsOf 3)) = xs[5]? := hf 5 _ rfl
  rw [co3] at e5
  obtain ⟨_, x5, r5, w5⟩ := (Opens.int (by kernel_rfl)) _ _ _ _ _ _ _ (e5.trans (List.getElem?_eq_getElem (by omega)))
  obtain ⟨v0, q0, s0⟩ := r0
  have q0 : [c0] = [v0] := q0
  cases q0
  have q1 : [c1] = [_] := r1
  cases q1
  have q2 : [c2] = [_] := r2
  cases q2
  have q3 : [c3, c4] = _ := r3
  cases q3
  have q4 : [c5] = [_] := r4
  cases q4
  have q5 : [c6] = [_] := r5
  cases q5
  exact ⟨rfl, ⟨x0, x1, x2, x3, x4, x5⟩, ⟨c0, rfl, s0⟩, w0, w1, w2, w3, w4, w5⟩
def W_Canopy (x : Canopy) : Prop := W_Frame x.Frame ∧ (fun (l : List Span) => (∀ x ∈ l, W_Span x) ∧ l.length ≤ 9223372036854775807) x.Ribs ∧ (fun (l : List Int) => (∀ x ∈ l, I64 x) ∧ l.length ≤ 9223372036854775807) x.Shares
set_option maxRecDepth 100000 in
theorem o_Canopy {T : Type} {enc : TypeId × Value → T} : Opens enc Tryz.prog 30 9 R_Canopy W_Canopy := by
  intro w base sp held fuel cs y h
  obtain ⟨xs, n, _, rfl, hl, hlen, hf⟩ := DataW.trod_struct Tryz.underlying30 h
  have hl2 : cs.length = 9 := hl.trans (by kernel_rfl)
  have hx : xs.length = 3 := hlen
  obtain ⟨c0, c1, c2, c3, c4, c5, c6, c7, c8, rfl⟩ : ∃ c0 c1 c2 c3 c4 c5 c6 c7 c8, cs = [c0, c1, c2, c3, c4, c5, c6, c7, c8] := by
    match cs, hl2 with
    | [c0, c1, c2, c3, c4, c5, c6, c7, c8], _ => exact ⟨_, _, _, _, _, _, _, _, _, rfl⟩
  have co26 : Tryz.prog.cellsOf 26 = 7 := by kernel_rfl
  have co27 : Tryz.prog.cellsOf 27 = 1 := by kernel_rfl
  have co28 : Tryz.prog.cellsOf 28 = 1 := by kernel_rfl
  have e0 : DataW.trod enc Tryz.prog w base sp held n 26 (([c0, c1, c2, c3, c4, c5, c6, c7, c8].drop 0).take (Tryz.prog.cellsOf 26)) = xs[0]? := hf 0 _ rfl
  rw [co26] at e0
  obtain ⟨_, x0, r0, w0⟩ := o_Frame _ _ _ _ _ _ _ (e0.trans (List.getElem?_eq_getElem (by omega)))
  have e1 : DataW.trod enc Tryz.prog w base sp held n 27 (([c0, c1, c2, c3, c4, c5, c6, c7, c8].drop 7).take (Tryz.prog.cellsOf 27)) = xs[1]? := hf 1 _ rfl
  rw [co27] at e1
  obtain ⟨_, x1, r1, w1⟩ := (Opens.slice (e := 42) (sz := 2) (by kernel_rfl) (by kernel_rfl) rfl o_Span) _ _ _ _ _ _ _ (e1.trans (List.getElem?_eq_getElem (by omega)))
  have e2 : DataW.trod enc Tryz.prog w base sp held n 28 (([c0, c1, c2, c3, c4, c5, c6, c7, c8].drop 8).take (Tryz.prog.cellsOf 28)) = xs[2]? := hf 2 _ rfl
  rw [co28] at e2
  obtain ⟨_, x2, r2, w2⟩ := (Opens.slice (e := 3) (sz := 1) (by kernel_rfl) (by kernel_rfl) rfl (Opens.int (by kernel_rfl))) _ _ _ _ _ _ _ (e2.trans (List.getElem?_eq_getElem (by omega)))
  obtain ⟨v0_0, q0, s0_0⟩ := r0
  cases q0
  obtain ⟨v1, q1, s1⟩ := r1
  have q1 : [c7] = [v1] := q1
  cases q1
  obtain ⟨v2, q2, s2⟩ := r2
  have q2 : [c8] = [v2] := q2
  cases q2
  exact ⟨rfl, ⟨x0, x1, x2⟩, ⟨c0, c7, c8, rfl, s0_0, s1, s2⟩, w0, w1, w2⟩
def W_Blow (x : Blow) : Prop := I64 x.At ∧ W_Span x.Force
set_option maxRecDepth 100000 in
theorem o_Blow {T : Type} {enc : TypeId × Value → T} : Opens enc Tryz.prog 62 3 R_Blow W_Blow := by
  intro w base sp held fuel cs y h
  obtain ⟨xs, n, _, rfl, hl, hlen, hf⟩ := DataW.trod_struct Tryz.underlying62 h
  have hl2 : cs.length = 3 := hl.trans (by kernel_rfl)
  have hx : xs.length = 2 := hlen
  obtain ⟨c0, c1, c2, rfl⟩ : ∃ c0 c1 c2, cs = [c0, c1, c2] := by
    match cs, hl2 with
    | [c0, c1, c2], _ => exact ⟨_, _, _, rfl⟩
  have co3 : Tryz.prog.cellsOf 3 = 1 := by kernel_rfl
  have co42 : Tryz.prog.cellsOf 42 = 2 := by kernel_rfl
  have e0 : DataW.trod enc Tryz.prog w base sp held n 3 (([c0, c1, c2].drop 0).take (Tryz.prog.cellsOf 3)) = xs[0]? := hf 0 _ rfl
  rw [co3] at e0
  obtain ⟨_, x0, r0, w0⟩ := (Opens.int (by kernel_rfl)) _ _ _ _ _ _ _ (e0.trans (List.getElem?_eq_getElem (by omega)))
  have e1 : DataW.trod enc Tryz.prog w base sp held n 42 (([c0, c1, c2].drop 1).take (Tryz.prog.cellsOf 42)) = xs[1]? := hf 1 _ rfl
  rw [co42] at e1
  obtain ⟨_, x1, r1, w1⟩ := o_Span _ _ _ _ _ _ _ (e1.trans (List.getElem?_eq_getElem (by omega)))
  have q0 : [c0] = [_] := r0
  cases q0
  have q1 : [c1, c2] = _ := r1
  cases q1
  exact ⟨rfl, ⟨x0, x1⟩, rfl, w0, w1⟩
def W_Meter (x : Meter) : Prop := I64 x.Limit ∧ I64 x.Count
set_option maxRecDepth 100000 in
theorem o_Meter {T : Type} {enc : TypeId × Value → T} : Opens enc Tryz.prog 73 2 R_Meter W_Meter := by
  intro w base sp held fuel cs y h
  obtain ⟨xs, n, _, rfl, hl, hlen, hf⟩ := DataW.trod_struct Tryz.underlying73 h
  have hl2 : cs.length = 2 := hl.trans (by kernel_rfl)
  have hx : xs.length = 2 := hlen
  obtain ⟨c0, c1, rfl⟩ : ∃ c0 c1, cs = [c0, c1] := by
    match cs, hl2 with
    | [c0, c1], _ => exact ⟨_, _, rfl⟩
  have co3 : Tryz.prog.cellsOf 3 = 1 := by kernel_rfl
  have e0 : DataW.trod enc Tryz.prog w base sp held n 3 (([c0, c1].drop 0).take (Tryz.prog.cellsOf 3)) = xs[0]? := hf 0 _ rfl
  rw [co3] at e0
  obtain ⟨_, x0, r0, w0⟩ := (Opens.int (by kernel_rfl)) _ _ _ _ _ _ _ (e0.trans (List.getElem?_eq_getElem (by omega)))
  have e1 : DataW.trod enc Tryz.prog w base sp held n 3 (([c0, c1].drop 1).take (Tryz.prog.cellsOf 3)) = xs[1]? := hf 1 _ rfl
  rw [co3] at e1
  obtain ⟨_, x1, r1, w1⟩ := (Opens.int (by kernel_rfl)) _ _ _ _ _ _ _ (e1.trans (List.getElem?_eq_getElem (by omega)))
  have q0 : [c0] = [_] := r0
  cases q0
  have q1 : [c1] = [_] := r1
  cases q1
  exact ⟨rfl, ⟨x0, x1⟩, rfl, w0, w1⟩
def W_Run (x : Run) : Prop := W_Canopy x.Canopy ∧ (fun (l : List Blow) => (∀ x ∈ l, W_Blow x) ∧ l.length ≤ 9223372036854775807) x.Blows ∧ (fun (l : List Meter) => (∀ x ∈ l, W_Meter x) ∧ l.length ≤ 9223372036854775807) x.Meters ∧ I64 x.Wrong
set_option maxRecDepth 100000 in
theorem o_Run {T : Type} {enc : TypeId × Value → T} : Opens enc Tryz.prog 34 12 R_Run W_Run := by
  intro w base sp held fuel cs y h
  obtain ⟨xs, n, _, rfl, hl, hlen, hf⟩ := DataW.trod_struct Tryz.underlying34 h
  have hl2 : cs.length = 12 := hl.trans (by kernel_rfl)
  have hx : xs.length = 4 := hlen
  obtain ⟨c0, c1, c2, c3, c4, c5, c6, c7, c8, c9, c10, c11, rfl⟩ : ∃ c0 c1 c2 c3 c4 c5 c6 c7 c8 c9 c10 c11, cs = [c0, c1, c2, c3, c4, c5, c6, c7, c8, c9, c10, c11] := by
    match cs, hl2 with
    | [c0, c1, c2, c3, c4, c5, c6, c7, c8, c9, c10, c11], _ => exact ⟨_, _, _, _, _, _, _, _, _, _, _, _, rfl⟩
  have co3 : Tryz.prog.cellsOf 3 = 1 := by kernel_rfl
  have co30 : Tryz.prog.cellsOf 30 = 9 := by kernel_rfl
  have co31 : Tryz.prog.cellsOf 31 = 1 := by kernel_rfl
  have co32 : Tryz.prog.cellsOf 32 = 1 := by kernel_rfl
  have e0 : DataW.trod enc Tryz.prog w base sp held n 30 (([c0, c1, c2, c3, c4, c5, c6, c7, c8, c9, c10, c11].drop 0).take (Tryz.prog.cellsOf 30)) = xs[0]? := hf 0 _ rfl
  rw [co30] at e0
  obtain ⟨_, x0, r0, w0⟩ := o_Canopy _ _ _ _ _ _ _ (e0.trans (List.getElem?_eq_getElem (by omega)))
  have e1 : DataW.trod enc Tryz.prog w base sp held n 31 (([c0, c1, c2, c3, c4, c5, c6, c7, c8, c9, c10, c11].drop 9).take (Tryz.prog.cellsOf 31)) = xs[1]? := hf 1 _ rfl
  rw [co31] at e1
  obtain ⟨_, x1, r1, w1⟩ := (Opens.slice (e := 62) (sz := 3) (by kernel_rfl) (by kernel_rfl) rfl o_Blow) _ _ _ _ _ _ _ (e1.trans (List.getElem?_eq_getElem (by omega)))
  have e2 : DataW.trod enc Tryz.prog w base sp held n 32 (([c0, c1, c2, c3, c4, c5, c6, c7, c8, c9, c10, c11].drop 10).take (Tryz.prog.cellsOf 32)) = xs[2]? := hf 2 _ rfl
  rw [co32] at e2
  obtain ⟨_, x2, r2, w2⟩ := (Opens.slice (e := 73) (sz := 2) (by kernel_rfl) (by kernel_rfl) rfl o_Meter) _ _ _ _ _ _ _ (e2.trans (List.getElem?_eq_getElem (by omega)))
  have e3 : DataW.trod enc Tryz.prog w base sp held n 3 (([c0, c1, c2, c3, c4, c5, c6, c7, c8, c9, c10, c11].drop 11).take (Tryz.prog.cellsOf 3)) = xs[3]? := hf 3 _ rfl
  rw [co3] at e3
  obtain ⟨_, x3, r3, w3⟩ := (Opens.int (by kernel_rfl)) _ _ _ _ _ _ _ (e3.trans (List.getElem?_eq_getElem (by omega)))
  obtain ⟨v0_0, v0_7, v0_8, q0, s0_0, s0_7, s0_8⟩ := r0
  cases q0
  obtain ⟨v1, q1, s1⟩ := r1
  have q1 : [c9] = [v1] := q1
  cases q1
  obtain ⟨v2, q2, s2⟩ := r2
  have q2 : [c10] = [v2] := q2
  cases q2
  have q3 : [c11] = [_] := r3
  cases q3
  exact ⟨rfl, ⟨x0, x1, x2, x3⟩, ⟨c0, c7, c8, c9, c10, rfl, s0_0, s0_7, s0_8, s1, s2⟩, w0, w1, w2, w3⟩
end Go.Proofs.YtcipdblhopffbaaGreat
end
section
set_option maxRecDepth 100000
set_option maxHeartbeats 40000000
namespace Go.Proofs.YtcipdblhopffbaaGreat
open Go Go.RowKit Go.Dec
set_option linter.unusedVariables false
-- 3 ferrule/ferrulelaw13.CountsHarm
noncomputable def F_law13_CountsHarm (n : Nat) (r : Run) : Option Bool :=
 (F_law13_Far n r).bind fun y2 => if y2 = true then ((F_law13_works n).bind fun y4 => some y4) else ((F_ref13_Copy n r).bind fun y5 => (F_counts_Stood n y5).bind fun y9 => (F_ref13_Stood n r).bind fun y10 => (F_counts_Harm n y5).bind fun y11 => (F_ref13_Harm n r).bind fun y13 => (F_counts_Show n y5).bind fun y15 => (if ((((y9.1 != y10.1) || (y9.2 != y10.2)) || (!((y11.1.Low == y13.1.Low) && (y11.1.High == y13.1.High)))) || (y11.2 != y13.2)) = true then (some true) else ((F_ref13_CheckShow n r).bind fun y28 => some (y15.2 != y28)) : Option Bool).bind fun p25 => if (p25 || ((y15.2 != 0) && (decide (0 < (y15.1.length : Int))))) = true then (some false) else ((if (y15.2 != 0) = true then (some true) else ((F_ref13_IsTruth n r y15.1).bind fun y40 => some y40) : Option Bool).bind fun p37 => (if p37 = true then ((F_law13_works n).bind fun y45 => some y45) else (some false) : Option Bool).bind fun p42 => some p42))
theorem c_law13_CountsHarm (n : Nat) (H : Hp) (r : Run) (r_v0 : Value) (hr_0 : SL H 7 R_Section r_v0 r.Canopy.Frame.Sections) (r_v7 : Value) (hr_7 : SL H 2 R_Span r_v7 r.Canopy.Ribs) (r_v8 : Value) (hr_8 : SL H 1 RInt r_v8 r.Canopy.Shares) (r_v9 : Value) (hr_9 : SL H 3 R_Blow r_v9 r.Blows) (r_v10 : Value) (hr_10 : SL H 2 R_Meter r_v10 r.Meters) (y : Bool) (hF : F_law13_CountsHarm n r = some y) : SC Tryz.prog 3 [.agg [r_v0, .int .i64 r.Canopy.Frame.Low, .int .i64 r.Canopy.Frame.High, .int .i64 r.Canopy.Frame.Ease.Num, .int .i64 r.Canopy.Frame.Ease.Den, .int .i64 r.Canopy.Frame.Rod, .int .i64 r.Canopy.Frame.Case, r_v7, r_v8, r_v9, r_v10, .int .i64 r.Wrong].toArray] (.bool y) H := by
 rw [F_law13_CountsHarm] at hF
 refine SC.of (N := 87) Tryz.func3 rfl rfl rfl fun w => ?_
 refine JC.seq (JC.region (by rfl) ?_)
 intro hQ
 refine JL.box (cs := [r_v0, .int .i64 r.Canopy.Frame.Low, .int .i64 r.Canopy.Frame.High, .int .i64 r.Canopy.Frame.Ease.Num, .int .i64 r.Canopy.Frame.Ease.Den, .int .i64 r.Canopy.Frame.Rod, .int .i64 r.Canopy.Frame.Case, r_v7, r_v8, r_v9, r_v10, .int .i64 r.Wrong]) rfl .none rfl ?_
 intro b1
 refine JL.assign .none rfl (JL.done hQ (JQ.go (JC.seq (JC.seq (JC.region (by rfl) ?_)))))
 intro hQ
 refine JL.loadOwn 0 az_34 rfl rfl rfl .none rfl ?_
 obtain ⟨y2, hy2, hF⟩ := bind_some hF
 refine JL.callS (c_law13_Far n H r r_v0 hr_0 r_v7 hr_7 r_v8 hr_8 r_v9 hr_9 r_v10 hr_10 y2 hy2) rfl en_6 .none rfl ?_
 refine JL.done hQ (JQ.go ?_)
 rcases ite_some hF with ⟨hc3, hF⟩ | ⟨hc3, hF⟩
 ·refine JC.cond_t (b := y2) rfl hc3 ?_
  refine JC.seq (JC.region (by rfl) ?_)
  intro hQ
  obtain ⟨y4, hy4, hF⟩ := bind_some hF
  refine JL.callS (c_law13_works n H y4 hy4) rfl en_7 .none rfl ?_
  refine JL.assign .none rfl (JL.done hQ (JQ.go (JC.ret (JQ.ret_then ?_))))
  obtain rfl := Option.some.inj hF
  exact JQ.outS rfl (.tmp .nil) rfl
 ·refine JC.cond_f (b := y2) rfl hc3 ?_
  refine JC.skip (JQ.go (JC.seq (JC.region (by rfl) ?_)))
  intro hQ
  refine JL.loadOwn 0 az_34 rfl rfl rfl .none rfl ?_
  obtain ⟨y5, hy5, hF⟩ := bind_some hF
  refine JL.callH (c_ref13_Copy n H r r_v0 hr_0 r_v7 hr_7 r_v8 hr_8 r_v9 hr_9 r_v10 hr_10 y5 hy5) rfl en_8 .none rfl ?_
  rintro H6 vv7 hs6 ⟨y5a_v0, y5a_v7, y5a_v8, y5a_v9, y5a_v10, rfl, hy5a_0, hy5a_7, hy5a_8, hy5a_9, hy5a_10⟩
  refine JL.alloc ze_34 .none rfl ?_
  intro b8
  refine JL.storeOwn 0 (cs := [y5a_v0, .int .i64 y5.Canopy.Frame.Low, .int .i64 y5.Canopy.Frame.High, .int .i64 y5.Canopy.Frame.Ease.Num, .int .i64 y5.Canopy.Frame.Ease.Den, .int .i64 y5.Canopy.Frame.Rod, .int .i64 y5.Canopy.Frame.Case, y5a_v7, y5a_v8, y5a_v9, y5a_v10, .int .i64 y5.Wrong]) az_34 rfl rfl rfl (one_cons (SL.one hy5a_0) (one_cons rfl (one_cons rfl (one_cons rfl (one_cons rfl (one_cons rfl (one_cons rfl (one_cons (SL.one hy5a_7) (one_cons (SL.one hy5a_8) (one_cons (SL.one hy5a_9) (one_cons (SL.one hy5a_10) (one_cons rfl one_nil)))))))))))) rfl rfl .none ?_
  refine JL.done hQ (JQ.go (JC.seq (JC.region (by rfl) ?_)))
  intro hQ
  refine JL.loadOwn 0 az_34 rfl rfl rfl .none rfl ?_
  obtain ⟨y9, hy9, hF⟩ := bind_some hF
  refine JL.callS (c_counts_Stood n H6 y5 y5a_v0 hy5a_0 y5a_v7 hy5a_7 y5a_v8 hy5a_8 y5a_v9 hy5a_9 y5a_v10 hy5a_10 y9 hy9) rfl en_9 .none rfl ?_
  refine JL.move .none rfl (JL.extract rfl rfl .none rfl (JL.extract rfl rfl .none rfl (JL.assign .none rfl (JL.assign .none rfl (JL.done hQ (JQ.go (JC.fresh (fun f => f 1 = .pointer (some ⟨b1, 0, none⟩) ∧ f 2 = .bool false ∧ f 3 = .pointer (some ⟨b8, 0, none⟩) ∧ f 4 = .int .i64 y9.1 ∧ f 5 = .int .i64 y9.2) ⟨rfl, rfl, rfl, rfl, rfl⟩ ?_)))))))
  rintro f ⟨hf1, hf2, hf3, hf4, hf5⟩
  refine (JC.norm (i := 1) hf1 (JC.norm (i := 2) hf2 (JC.norm (i := 3) hf3 (JC.norm (i := 4) hf4 (JC.norm (i := 5) hf5 ?_)))))
  refine JC.seq (JC.region (by rfl) ?_)
  intro hQ
  refine JL.loadOwn 1 az_34 rfl rfl rfl .none rfl ?_
  obtain ⟨y10, hy10, hF⟩ := bind_some hF
  refine JL.callS (c_ref13_Stood n H6 r r_v0 (SL.mono R_Section_mono hs6 hr_0) r_v7 (SL.mono R_Span_mono hs6 hr_7) r_v8 (SL.mono RInt.mono hs6 hr_8) r_v9 (SL.mono R_Blow_mono hs6 hr_9) r_v10 (SL.mono R_Meter_mono hs6 hr_10) y10 hy10) rfl en_10 .none rfl ?_
  refine JL.move .none rfl (JL.extract rfl rfl .none rfl (JL.extract rfl rfl .none rfl (JL.assign .none rfl (JL.assign .none rfl (JL.done hQ (JQ.go (JC.seq (JC.region (by rfl) ?_))))))))
  intro hQ
  refine JL.loadOwn 0 az_34 rfl rfl rfl .none rfl ?_
  obtain ⟨y11, hy11, hF⟩ := bind_some hF
  refine JL.callS (c_counts_Harm n H6 y5 y5a_v0 hy5a_0 y5a_v7 hy5a_7 y5a_v8 hy5a_8 y5a_v9 hy5a_9 y5a_v10 hy5a_10 y11 hy11) rfl en_11 .none rfl ?_
  refine JL.move .none rfl (JL.extract rfl rfl .none rfl (JL.extract rfl rfl .none rfl (JL.alloc ze_42 .none rfl ?_)))
  intro b12
  refine JL.storeOwn 0 (cs := [.int .i64 y11.1.Low, .int .i64 y11.1.High]) az_42 rfl rfl rfl (one_cons rfl (one_cons rfl one_nil)) rfl rfl .none ?_
  refine JL.assign .none rfl (JL.done hQ (JQ.go (JC.fresh (fun f => f 1 = .pointer (some ⟨b1, 0, none⟩) ∧ f 2 = .bool false ∧ f 3 = .pointer (some ⟨b8, 0, none⟩) ∧ f 4 = .int .i64 y9.1 ∧ f 5 = .int .i64 y9.2 ∧ f 6 = .int .i64 y10.1 ∧ f 7 = .int .i64 y10.2 ∧ f 8 = .pointer (some ⟨b12, 0, none⟩) ∧ f 9 = .int .i64 y11.2) ⟨rfl, rfl, rfl, rfl, rfl, rfl, rfl, rfl, rfl⟩ ?_)))
  rintro f ⟨hf1, hf2, hf3, hf4, hf5, hf6, hf7, hf8, hf9⟩
  refine (JC.norm (i := 1) hf1 (JC.norm (i := 2) hf2 (JC.norm (i := 3) hf3 (JC.norm (i := 4) hf4 (JC.norm (i := 5) hf5 (JC.norm (i := 6) hf6 (JC.norm (i := 7) hf7 (JC.norm (i := 8) hf8 (JC.norm (i := 9) hf9 ?_)))))))))
  refine JC.seq (JC.region (by rfl) ?_)
  intro hQ
  refine JL.loadOwn 2 az_34 rfl rfl rfl .none rfl ?_
  obtain ⟨y13, hy13, hF⟩ := bind_some hF
  refine JL.callS (c_ref13_Harm n H6 r r_v0 (SL.mono R_Section_mono hs6 hr_0) r_v7 (SL.mono R_Span_mono hs6 hr_7) r_v8 (SL.mono RInt.mono hs6 hr_8) r_v9 (SL.mono R_Blow_mono hs6 hr_9) r_v10 (SL.mono R_Meter_mono hs6 hr_10) y13 hy13) rfl en_12 .none rfl ?_
  refine JL.move .none rfl (JL.extract rfl rfl .none rfl (JL.extract rfl rfl .none rfl (JL.alloc ze_42 .none rfl ?_)))
  intro b14
  refine JL.storeOwn 0 (cs := [.int .i64 y13.1.Low, .int .i64 y13.1.High]) az_42 rfl rfl rfl (one_cons rfl (one_cons rfl one_nil)) rfl rfl .none ?_
  refine JL.assign .none rfl (JL.done hQ (JQ.go (JC.seq (JC.region (by rfl) ?_))))
  intro hQ
  refine JL.loadOwn 2 az_34 rfl rfl rfl .none rfl ?_
  obtain ⟨y15, hy15, hF⟩ := bind_some hF
  refine JL.callH (c_counts_Show n H6 y5 y5a_v0 hy5a_0 y5a_v7 hy5a_7 y5a_v8 hy5a_8 y5a_v9 hy5a_9 y5a_v10 hy5a_10 y15 hy15) rfl en_13 .none rfl ?_
  rintro H16 vv17 hs16 ⟨y15a_v0, rfl, hy15a_0⟩
  refine JL.move .none rfl (JL.extract rfl rfl .none rfl (JL.extract rfl rfl .none rfl (JL.assign .none rfl (JL.assign .none rfl (JL.done hQ (JQ.go (JC.fresh (fun f => f 1 = .pointer (some ⟨b1, 0, none⟩) ∧ f 2 = .bool false ∧ f 4 = .int .i64 y9.1 ∧ f 5 = .int .i64 y9.2 ∧ f 6 = .int .i64 y10.1 ∧ f 7 = .int .i64 y10.2 ∧ f 8 = .pointer (some ⟨b12, 0, none⟩) ∧ f 9 = .int .i64 y11.2 ∧ f 10 = .pointer (some ⟨b14, 0, none⟩) ∧ f 11 = .int .i64 y13.2 ∧ f 12 = y15a_v0 ∧ f 13 = .int .i64 y15.2) ⟨rfl, rfl, rfl, rfl, rfl, rfl, rfl, rfl, rfl, rfl, rfl, rfl⟩ ?_)))))))
  rintro f ⟨hf1, hf2, hf4, hf5, hf6, hf7, hf8, hf9, hf10, hf11, hf12, hf13⟩
  refine (JC.norm (i := 1) hf1 (JC.norm (i := 2) hf2 (JC.norm (i := 4) hf4 (JC.norm (i := 5) hf5 (JC.norm (i := 6) hf6 (JC.norm (i := 7) hf7 (JC.norm (i := 8) hf8 (JC.norm (i := 9) hf9 (JC.norm (i := 10) hf10 (JC.norm (i := 11) hf11 (JC.norm (i := 12) hf12 (JC.norm (i := 13) hf13 ?_))))))))))))
  refine JC.seq (JC.seq (JC.region (by rfl) ?_))
  intro hQ
  refine JL.move .none rfl (JL.move .none rfl (JL.bin rfl rfl rfl .none rfl (JL.move .none rfl (JL.cut 4 (fun f => f 1 = .pointer (some ⟨b1, 0, none⟩) ∧ f 8 = .pointer (some ⟨b12, 0, none⟩) ∧ f 9 = .int .i64 y11.2 ∧ f 10 = .pointer (some ⟨b14, 0, none⟩) ∧ f 11 = .int .i64 y13.2 ∧ f 12 = y15a_v0 ∧ f 13 = .int .i64 y15.2 ∧ f 51 = .bool ((y9.1 != y10.1) || (y9.2 != y10.2))) ?_ ?_))))
  ·intro hJ18
   rcases bcases (y9.1 != y10.1) with hc19 | hc19
   ·skip
    exact JL.skip (.bool rfl rfl rfl hc19) rfl (JL.skip (.bool rfl rfl rfl hc19) rfl (JL.skip (.bool rfl rfl rfl hc19) rfl (JL.pick_t (b := (y9.1 != y10.1)) rfl hc19 .none rfl (hJ18 _ ⟨rfl, rfl, rfl, rfl, rfl, rfl, rfl, or_t hc19 rfl⟩))))
   ·skip
    exact JL.move (.some rfl rfl rfl hc19) rfl (JL.move (.some rfl rfl rfl hc19) rfl (JL.bin rfl rfl rfl (.some rfl rfl rfl hc19) rfl (JL.pick_f (b := (y9.1 != y10.1)) rfl hc19 .none rfl (hJ18 _ ⟨rfl, rfl, rfl, rfl, rfl, rfl, rfl, or_f hc19 rfl⟩))))
  ·rintro f ⟨hf1, hf8, hf9, hf10, hf11, hf12, hf13, hf51⟩
   refine (JL.norm (i := 1) hf1 (JL.norm (i := 8) hf8 (JL.norm (i := 9) hf9 (JL.norm (i := 10) hf10 (JL.norm (i := 11) hf11 (JL.norm (i := 12) hf12 (JL.norm (i := 13) hf13 (JL.norm (i := 51) hf51 ?_))))))))
   refine JL.move .none rfl (JL.cut 4 (fun f => f 1 = .pointer (some ⟨b1, 0, none⟩) ∧ f 9 = .int .i64 y11.2 ∧ f 11 = .int .i64 y13.2 ∧ f 12 = y15a_v0 ∧ f 13 = .int .i64 y15.2 ∧ f 56 = .bool (((y9.1 != y10.1) || (y9.2 != y10.2)) || (!((y11.1.Low == y13.1.Low) && (y11.1.High == y13.1.High))))) ?_ ?_)
   ·intro hJ20
    rcases bcases ((y9.1 != y10.1) || (y9.2 != y10.2)) with hc21 | hc21
    ·skip
     exact JL.skip (.bool rfl rfl rfl hc21) rfl (JL.skip (.bool rfl rfl rfl hc21) rfl (JL.skip (.bool rfl rfl rfl hc21) rfl (JL.pick_t (b := ((y9.1 != y10.1) || (y9.2 != y10.2))) rfl hc21 .none rfl (hJ20 _ ⟨rfl, rfl, rfl, rfl, rfl, or_t hc21 rfl⟩))))
    ·skip
     refine JL.loadOwn 1 az_42 rfl rfl rfl (.some rfl rfl rfl hc21) rfl (JL.loadOwn 0 az_42 rfl rfl rfl (.some rfl rfl rfl hc21) rfl (JL.neAgg eqg_42 rfl rfl (fun w => eqa_42 y11.1.Low y11.1.High y13.1.Low y13.1.High w) (.some rfl rfl rfl hc21) rfl ?_))
     exact JL.pick_f (b := ((y9.1 != y10.1) || (y9.2 != y10.2))) rfl hc21 .none rfl (hJ20 _ ⟨rfl, rfl, rfl, rfl, rfl, or_f hc21 rfl⟩)
   ·rintro f ⟨hf1, hf9, hf11, hf12, hf13, hf56⟩
    refine (JL.norm (i := 1) hf1 (JL.norm (i := 9) hf9 (JL.norm (i := 11) hf11 (JL.norm (i := 12) hf12 (JL.norm (i := 13) hf13 (JL.norm (i := 56) hf56 ?_))))))
    refine JL.move .none rfl (JL.cut 4 (fun f => f 1 = .pointer (some ⟨b1, 0, none⟩) ∧ f 12 = y15a_v0 ∧ f 13 = .int .i64 y15.2 ∧ f 61 = .bool ((((y9.1 != y10.1) || (y9.2 != y10.2)) || (!((y11.1.Low == y13.1.Low) && (y11.1.High == y13.1.High)))) || (y11.2 != y13.2))) ?_ ?_)
    ·intro hJ22
     rcases bcases (((y9.1 != y10.1) || (y9.2 != y10.2)) || (!((y11.1.Low == y13.1.Low) && (y11.1.High == y13.1.High)))) with hc23 | hc23
     ·skip
      exact JL.skip (.bool rfl rfl rfl hc23) rfl (JL.skip (.bool rfl rfl rfl hc23) rfl (JL.skip (.bool rfl rfl rfl hc23) rfl (JL.pick_t (b := (((y9.1 != y10.1) || (y9.2 != y10.2)) || (!((y11.1.Low == y13.1.Low) && (y11.1.High == y13.1.High))))) rfl hc23 .none rfl (hJ22 _ ⟨rfl, rfl, rfl, or_t hc23 rfl⟩))))
     ·skip
      exact JL.move (.some rfl rfl rfl hc23) rfl (JL.move (.some rfl rfl rfl hc23) rfl (JL.bin rfl rfl rfl (.some rfl rfl rfl hc23) rfl (JL.pick_f (b := (((y9.1 != y10.1) || (y9.2 != y10.2)) || (!((y11.1.Low == y13.1.Low) && (y11.1.High == y13.1.High))))) rfl hc23 .none rfl (hJ22 _ ⟨rfl, rfl, rfl, or_f hc23 rfl⟩))))
    ·rintro f ⟨hf1, hf12, hf13, hf61⟩
     refine (JL.norm (i := 1) hf1 (JL.norm (i := 12) hf12 (JL.norm (i := 13) hf13 (JL.norm (i := 61) hf61 ?_))))
     refine JL.move .none rfl ?_
     obtain ⟨p25, hp25, hF⟩ := bind_some hF
     refine JL.cut 5 (fun f => f 1 = .pointer (some ⟨b1, 0, none⟩) ∧ f 12 = y15a_v0 ∧ f 13 = .int .i64 y15.2 ∧ f 67 = .bool p25) ?_ ?_
     ·intro hJ26
      rcases ite_some hp25 with ⟨hc27, hF⟩ | ⟨hc27, hF⟩
      ·skip
       refine JL.skip (.bool rfl rfl rfl hc27) rfl (JL.skip (.bool rfl rfl rfl hc27) rfl (JL.skip (.bool rfl rfl rfl hc27) rfl (JL.skip (.bool rfl rfl rfl hc27) rfl (JL.pick_t (b := ((((y9.1 != y10.1) || (y9.2 != y10.2)) || (!((y11.1.Low == y13.1.Low) && (y11.1.High == y13.1.High)))) || (y11.2 != y13.2))) rfl hc27 .none rfl ?_))))
       obtain rfl := Option.some.inj hF
       exact hJ26 _ ⟨rfl, rfl, rfl, rfl⟩
      ·skip
       refine JL.move (.some rfl rfl rfl hc27) rfl (JL.loadOwn 3 az_34 rfl rfl rfl (.some rfl rfl rfl hc27) rfl ?_)
       obtain ⟨y28, hy28, hF⟩ := bind_some hF
       refine JL.callS (c_ref13_CheckShow n H16 r r_v0 (SL.mono R_Section_mono (HSub.trans hs6 hs16) hr_0) r_v7 (SL.mono R_Span_mono (HSub.trans hs6 hs16) hr_7) r_v8 (SL.mono RInt.mono (HSub.trans hs6 hs16) hr_8) r_v9 (SL.mono R_Blow_mono (HSub.trans hs6 hs16) hr_9) r_v10 (SL.mono R_Meter_mono (HSub.trans hs6 hs16) hr_10) y28 hy28) rfl en_14 (.some rfl rfl rfl hc27) rfl ?_
       refine JL.bin rfl rfl rfl (.some rfl rfl rfl hc27) rfl (JL.pick_f (b := ((((y9.1 != y10.1) || (y9.2 != y10.2)) || (!((y11.1.Low == y13.1.Low) && (y11.1.High == y13.1.High)))) || (y11.2 != y13.2))) rfl hc27 .none rfl ?_)
       obtain rfl := Option.some.inj hF
       exact hJ26 _ ⟨rfl, rfl, rfl, rfl⟩
     ·rintro f ⟨hf1, hf12, hf13, hf67⟩
      refine (JL.norm (i := 1) hf1 (JL.norm (i := 12) hf12 (JL.norm (i := 13) hf13 (JL.norm (i := 67) hf67 ?_))))
      refine JL.move .none rfl (JL.cut 8 (fun f => f 1 = .pointer (some ⟨b1, 0, none⟩) ∧ f 12 = y15a_v0 ∧ f 13 = .int .i64 y15.2 ∧ f 76 = .bool (p25 || ((y15.2 != 0) && (decide (0 < (y15.1.length : Int)))))) ?_ ?_)
      ·intro hJ31
       rcases bcases p25 with hc32 | hc32
       ·skip
        exact JL.skip (.bool rfl rfl rfl hc32) rfl (JL.skip (.bool rfl rfl rfl hc32) rfl (JL.skip (.bool rfl rfl rfl hc32) rfl (JL.skip (.no rfl rfl rfl) rfl (JL.skip (.no rfl rfl rfl) rfl (JL.skip (.no rfl rfl rfl) rfl (JL.skip (.bool rfl rfl rfl hc32) rfl (JL.pick_t (b := p25) rfl hc32 .none rfl (hJ31 _ ⟨rfl, rfl, rfl, or_t hc32 rfl⟩))))))))
       ·skip
        refine JL.move (.some rfl rfl rfl hc32) rfl (JL.bin rfl rfl rfl (.some rfl rfl rfl hc32) rfl (JL.move (.some rfl rfl rfl hc32) rfl (JL.cut 4 (fun f => f 1 = .pointer (some ⟨b1, 0, none⟩) ∧ f 12 = y15a_v0 ∧ f 13 = .int .i64 y15.2 ∧ f 68 = .bool p25 ∧ f 75 = .bool ((y15.2 != 0) && (decide (0 < (y15.1.length : Int))))) ?_ ?_)))
        ·intro hJ33
         rcases bcases (y15.2 != 0) with hc34 | hc34
         ·skip
          refine JL.move (.some rfl rfl rfl hc34) rfl (JL.lenSL (R := RInt) ul_28 hy15a_0 (.some rfl rfl rfl hc34) rfl ?_)
          exact JL.bin rfl rfl rfl (.some rfl rfl rfl hc34) rfl (JL.pick_t (b := (y15.2 != 0)) rfl hc34 (.some rfl rfl rfl hc32) rfl (hJ33 _ ⟨rfl, rfl, rfl, rfl, and_t hc34 rfl⟩))
         ·skip
          exact JL.skip (.bool rfl rfl rfl hc34) rfl (JL.skip (.bool rfl rfl rfl hc34) rfl (JL.skip (.bool rfl rfl rfl hc34) rfl (JL.pick_f (b := (y15.2 != 0)) rfl hc34 (.some rfl rfl rfl hc32) rfl (hJ33 _ ⟨rfl, rfl, rfl, rfl, and_f hc34 rfl⟩))))
        ·rintro f ⟨hf1, hf12, hf13, hf68, hf75⟩
         refine (JL.norm (i := 1) hf1 (JL.norm (i := 12) hf12 (JL.norm (i := 13) hf13 (JL.norm (i := 68) hf68 (JL.norm (i := 75) hf75 ?_)))))
         exact JL.pick_f (b := p25) rfl hc32 .none rfl (hJ31 _ ⟨rfl, rfl, rfl, or_f hc32 rfl⟩)
      ·rintro f ⟨hf1, hf12, hf13, hf76⟩
       refine (JL.norm (i := 1) hf1 (JL.norm (i := 12) hf12 (JL.norm (i := 13) hf13 (JL.norm (i := 76) hf76 ?_))))
       refine JL.done hQ (JQ.go ?_)
       rcases ite_some hF with ⟨hc35, hF⟩ | ⟨hc35, hF⟩
       ·refine JC.cond_t (b := (p25 || ((y15.2 != 0) && (decide (0 < (y15.1.length : Int)))))) rfl hc35 ?_
        refine JC.seq (JC.region (by rfl) ?_)
        intro hQ
        refine JL.assign .none rfl (JL.done hQ (JQ.go (JC.ret (JQ.ret_then ?_))))
        obtain rfl := Option.some.inj hF
        exact JQ.outS rfl (.tmp .nil) rfl
       ·refine JC.cond_f (b := (p25 || ((y15.2 != 0) && (decide (0 < (y15.1.length : Int)))))) rfl hc35 ?_
        refine JC.skip (JQ.go (JC.seq (JC.region (by rfl) ?_)))
        intro hQ
        refine JL.move .none rfl (JL.bin rfl rfl rfl .none rfl (JL.move .none rfl ?_))
        obtain ⟨p37, hp37, hF⟩ := bind_some hF
        refine JL.cut 4 (fun f => f 83 = .bool p37) ?_ ?_
        ·intro hJ38
         rcases ite_some hp37 with ⟨hc39, hF⟩ | ⟨hc39, hF⟩
         ·skip
          refine JL.skip (.bool rfl rfl rfl hc39) rfl (JL.skip (.bool rfl rfl rfl hc39) rfl (JL.skip (.bool rfl rfl rfl hc39) rfl (JL.pick_t (b := (y15.2 != 0)) rfl hc39 .none rfl ?_)))
          obtain rfl := Option.some.inj hF
          exact hJ38 _ (rfl)
         ·skip
          refine JL.loadOwn 3 az_34 rfl rfl rfl (.some rfl rfl rfl hc39) rfl (JL.move (.some rfl rfl rfl hc39) rfl ?_)
          obtain ⟨y40, hy40, hF⟩ := bind_some hF
          refine JL.callS (c_ref13_IsTruth n H16 r r_v0 (SL.mono R_Section_mono (HSub.trans hs6 hs16) hr_0) r_v7 (SL.mono R_Span_mono (HSub.trans hs6 hs16) hr_7) r_v8 (SL.mono RInt.mono (HSub.trans hs6 hs16) hr_8) r_v9 (SL.mono R_Blow_mono (HSub.trans hs6 hs16) hr_9) r_v10 (SL.mono R_Meter_mono (HSub.trans hs6 hs16) hr_10) y15.1 y15a_v0 hy15a_0 y40 hy40) rfl en_15 (.some rfl rfl rfl hc39) rfl ?_
          refine JL.pick_f (b := (y15.2 != 0)) rfl hc39 .none rfl ?_
          obtain rfl := Option.some.inj hF
          exact hJ38 _ (rfl)
        ·rintro f hf83
         refine (JL.norm (i := 83) hf83 ?_)
         refine JL.move .none rfl ?_
         obtain ⟨p42, hp42, hF⟩ := bind_some hF
         refine JL.cut 2 (fun f => f 86 = .bool p42) ?_ ?_
         ·intro hJ43
          rcases ite_some hp42 with ⟨hc44, hF⟩ | ⟨hc44, hF⟩
          ·skip
           obtain ⟨y45, hy45, hF⟩ := bind_some hF
           refine JL.callS (c_law13_works n H16 y45 hy45) rfl en_7 (.some rfl rfl rfl hc44) rfl ?_
           refine JL.pick_t (b := p37) rfl hc44 .none rfl ?_
           obtain rfl := Option.some.inj hF
           exact hJ43 _ (rfl)
          ·skip
           refine JL.skip (.bool rfl rfl rfl hc44) rfl (JL.pick_f (b := p37) rfl hc44 .none rfl ?_)
           obtain rfl := Option.some.inj hF
           exact hJ43 _ (rfl)
         ·rintro f hf86
          refine (JL.norm (i := 86) hf86 ?_)
          refine JL.assign .none rfl (JL.done hQ (JQ.go (JC.ret ?_)))
          obtain rfl := Option.some.inj hF
          exact JQ.outS rfl (.tmp .nil) rfl
end Go.Proofs.YtcipdblhopffbaaGreat
end
section
namespace Go.Proofs.YtcipdblhopffbaaGreat
open Go Go.RowKit Go.Dec
theorem law_CountsHarm (r : Run) (_ : W_Run r) : ∃ n, F_law13_CountsHarm n r = some true := by
  have hn2 : 200000000 ≤ 200000000 := Nat.le_refl _
  have hn : 100000000 ≤ 200000000 := by omega
  refine ⟨200000000, ?_⟩
  have hw := works13 hn
  simp only [F_law13_CountsHarm]
  rcases p_Far13 hn r with h | ⟨h, hs, hb, hm⟩
  · simp [h, hw]
  · obtain ⟨l, hl1, hl2, hl3⟩ := p_Show hn2 hs
    simp only [h, Bool.false_eq_true, if_false, p_Copy13 hn hs, p_Stood hn hs, p_StoodR hn2 hs, p_Harm hn hs, p_HarmR hn2 hs, p_CheckShow2 hn2 hs, hl1, Option.bind_some, bne_self_eq_false, beq_self_eq_true, Bool.and_self, Bool.not_true, Bool.or_self]
    by_cases e : errR r true = 0
    · have hr := (errR_ok e).1
      have hnb := hr.nb; have hnm := hr.nm
      have ht := hl2 e
      have hc := truth_case ht
      have hcl := casesS_len hc
      have htr := (List.mem_filter.1 ht).2
      simp only [truthC] at htr
      simp only [e, bne_self_eq_false, Bool.false_and, Bool.false_or, Bool.false_eq_true, if_false, F_ref13_IsTruth, isCase_of hn2 hr hc, Option.bind_some, if_true, p_Wrongs hn2 (r := r) (c := l) (by omega) (by omega), htr, hw]
    · have e2 : (errR r true != 0) = true := by simpa using e
      rw [hl3 e]
      simp [e2, hw]
end Go.Proofs.YtcipdblhopffbaaGreat
end
section
namespace Go.Proofs.YtcipdblhopffbaaGreat
open Go Go.RowKit Go.Dec Go.ChangeShapes Go.WideShapes Go.ChangeAt
set_option linter.unusedVariables false
theorem cl_laidOut : laidOutB Tryz.prog = true := by kernel_rfl
theorem cl_own : ownKnob Tryz.prog.godebug = none := by kernel_rfl
set_option maxRecDepth 100000 in
set_option maxHeartbeats 1000000 in
theorem countsHarm_contract (law : ∀ (x0 : Run), W_Run x0 → ∃ n, F_law13_CountsHarm n x0 = some true)
    (T : Type) (enc : TypeId × Value → T) (W : World) (base : Nat) (args : Array Value) (ds gs : List (DataW T)) (before : List MemPlace)
    (hval : ∀ (j : Nat) t v, Tryz.f3.params[j]? = some t → args[j]? = some v → Value.okWide Tryz.prog W .any base t v)
    (hW : DataW.Whole enc Tryz.prog Tryz.f3.params.toList Rows.countsHarmSpec.vars false W args.toList ds gs before) :
    Calls Tryz.prog 3 args W fun e W' => ∃ v, e = .returned v ∧ Rows.countsHarmSpec.post enc Tryz.prog Tryz.f3 false true false false W args v W' := by
  have hW' := hW
  obtain ⟨p, q, hA0, hV, rfl, hfz, hnd⟩ := hW
  have hA : DataW.TrodAll enc Tryz.prog W 0 (fun _ => true) true Tryz.f3.params.toList args.toList ds p := hA0
  rw [Tryz.params3] at hA hval
  obtain ⟨v0, vs0, d0, ds0, p0, q0, hargs, rfl, rfl, h0, r0⟩ := trodAll_cons hA
  obtain ⟨rfl, rfl, rfl⟩ := trodAll_nil r0
  obtain rfl : args = #[v0] := by rw [← Array.toArray_toList (xs := args), hargs]
  obtain ⟨rfl, rfl⟩ := trodVars_none hV
  obtain ⟨cs0, rfl, hs0⟩ := okWide_struct Tryz.underlying34 (hval 0 34 v0 rfl rfl)
  have k0 := h0
  obtain ⟨f0, e0⟩ := h0
  obtain ⟨_, x0, r0, w0⟩ := o_Run _ _ _ _ _ _ _ e0
  obtain ⟨n, hn⟩ := law x0 w0
  obtain ⟨u0_0, u0_1, u0_2, u0_3, u0_4, q0, s0_0, s0_1, s0_2, s0_3, s0_4⟩ := r0
  have q0 : cs0.toList = _ := q0
  obtain rfl : cs0 = _ := by rw [← Array.toArray_toList (xs := cs0), q0]
  have hlt : ∀ x ∈ p0 ++ [], x.block < W.heap.size := fun x hx => hW'.lt x (by simpa using hx)
  refine ((c_law13_CountsHarm n (hw W) x0 u0_0 s0_0 u0_1 s0_1 u0_2 s0_2 u0_3 s0_3 u0_4 s0_4 true hn) W (hw_le W)).mono fun e W' ⟨he, hb0⟩ => ?_
  have hb := hb0.plain rfl
  subst he
  refine ⟨_, rfl, _, _, _, [], p0 ++ [], [], hW', trodAll_cons_mk (shut_bool Tryz.underlying4 _) trodAll_mk0, ?_, rfl, hb.frame _, fun h => by cases h⟩
  exact trodAll_cons_mk (Below.trod cl_laidOut (by kernel_rfl) (of_decide_eq_true (by kernel_rfl)) k0 hb (fun x hx => hlt x (List.mem_append_left _ hx))) trodAll_mk0
set_option maxRecDepth 100000 in
theorem countsHarm_lifted (law : ∀ (x0 : Run), W_Run x0 → ∃ n, F_law13_CountsHarm n x0 = some true)
    (os : Os) (started : os.Started) (H : Type) (enc : TypeId × Value → H) :
    ReturnsInHanded {} Tryz.checked os 3 .any (Rows.countsHarmSpec.pre6 enc Tryz.prog Tryz.f3 Rows.countsHarmRow.domain false) (Rows.countsHarmSpec.post enc Tryz.prog Tryz.f3 false true false false) := by
  refine returnsInHanded_of_change (C := Tryz.checked) cl_own started (by kernel_rfl) Tryz.func3
    (ChangeSpec.witness6 (enc := enc) (C := Tryz.checked) false ⟨#[], #[.agg #[.slice none 0 0, .int .i64 0, .int .i64 0, .int .i64 0, .int .i64 0, .int .i64 0, .int .i64 0, .slice none 0 0, .slice none 0 0, .slice none 0 0, .slice none 0 0, .int .i64 0]], []⟩ 8 (by kernel_rfl) (by kernel_rfl) (by kernel_rfl) (by kernel_rfl)) ?_
  intro W base args ds gs before hval hW _ _
  exact countsHarm_contract law H enc W base args ds gs before hval hW
theorem countsHarm_holds (law : ∀ (x0 : Run), W_Run x0 → ∃ n, F_law13_CountsHarm n x0 = some true) : Rows.CountsHarmSaid :=
  OpenClaim.holds_of_wide 3 Tryz.f3 rfl rfl rfl rfl rfl rfl rfl ⟨rfl, rfl, rfl, rfl, rfl⟩ rfl rfl rfl rfl rfl (by kernel_rfl) Tryz.func3 (by kernel_rfl)
    (of_decide_eq_true (by kernel_rfl)) (by unfold Func.isWrapper; first | (rw [if_pos (by decide +kernel)]; kernel_rfl) | (rw [if_neg (by decide +kernel)]; exact ⟨rfl, rfl⟩))
    (fun os started H enc _ => countsHarm_lifted law os started H enc)
theorem countsHarm_proved : Rows.CountsHarmSaid := countsHarm_holds law_CountsHarm
end Go.Proofs.YtcipdblhopffbaaGreat
end
