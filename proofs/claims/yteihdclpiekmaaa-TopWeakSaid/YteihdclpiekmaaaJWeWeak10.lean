/-
  A part of the proof of WeWeak: the texts WePgb, WePgc, WePgd, WePge, WePgf, WePgg, EngZ, WePca, WePcb.
-/
import Derived.Test.YteihdclpiekmaaaJWeWeak9
section
namespace Go.Proofs.Yteihdclpiekmaaa
open Go Go.RowKit Go.Dec
set_option linter.unusedVariables false
structure BOk (b : gusts_blown) : Prop where
  r : 3 ≤ b.ribs.length ∧ b.ribs.length ≤ 10
  s : b.shares.length = b.ribs.length
  l : 0 ≤ b.lift ∧ b.lift ≤ 200
  sh : ∀ x ∈ b.shares, 0 ≤ x ∧ x ≤ 99
structure GOk (N : Nat) (g : Gust) : Prop where
  f : 0 ≤ g.Force ∧ g.Force ≤ 99
  a : 0 ≤ g.At ∧ g.At < N
def shareS (sh : List Int) (g : Gust) (i : Nat) : Int := (sh[(i + sh.length - g.At.toNat) % sh.length]?).getD 0
def loadS (lift : Int) (sh : List Int) (g : Gust) (i : Nat) : Int := (g.Force * lift * shareS sh g i).tdiv 100
theorem share_get {sh : List Int} {g : Gust} (h0 : 0 < sh.length) (i : Nat) : sh[(i + sh.length - g.At.toNat) % sh.length]? = some (shareS sh g i) := by
  have := Nat.mod_lt (i + sh.length - g.At.toNat) h0
  simp [shareS, this]
theorem share_in {sh : List Int} (hs : ∀ x ∈ sh, 0 ≤ x ∧ x ≤ 99) {g : Gust} (h0 : 0 < sh.length) (i : Nat) : 0 ≤ shareS sh g i ∧ shareS sh g i ≤ 99 := hs _ (List.mem_of_getElem? (share_get h0 i))
theorem prod_in {lift : Int} (hl : 0 ≤ lift ∧ lift ≤ 200) {sh : List Int} (hs : ∀ x ∈ sh, 0 ≤ x ∧ x ≤ 99) {g : Gust} (hf : 0 ≤ g.Force ∧ g.Force ≤ 99) (h0 : 0 < sh.length) (i : Nat) : (0 ≤ g.Force * lift ∧ g.Force * lift ≤ 19800) ∧ (0 ≤ g.Force * lift * shareS sh g i ∧ g.Force * lift * shareS sh g i ≤ 1960200) := by
  have h1 := mul_in hf.1 hf.2 hl.1 hl.2
  have hsh := share_in hs (g := g) h0 i
  have h2 := mul_in (A := 19800) h1.1 (by omega) hsh.1 hsh.2
  exact ⟨⟨h1.1, by omega⟩, h2.1, by omega⟩
theorem load_in {lift : Int} (hl : 0 ≤ lift ∧ lift ≤ 200) {sh : List Int} (hs : ∀ x ∈ sh, 0 ≤ x ∧ x ≤ 99) {g : Gust} (hf : 0 ≤ g.Force ∧ g.Force ≤ 99) (h0 : 0 < sh.length) (i : Nat) : 0 ≤ loadS lift sh g i ∧ loadS lift sh g i ≤ 19602 := by
  have := (prod_in hl hs hf h0 i).2
  unfold loadS
  rw [Int.tdiv_eq_ediv_of_nonneg this.1]
  omega
theorem load_ok {b : gusts_blown} (hb : BOk b) {g : Gust} (hg : GOk b.ribs.length g) : LOk (loadS b.lift b.shares g) b.ribs.length := fun i _ => by
  have := load_in hb.l hb.sh hg.f (by have := hb.s; have := hb.r; omega) i
  omega
theorem tmod_nat (a b : Nat) : (a : Int).tmod (b : Int) = ((a % b : Nat) : Int) := rfl
theorem nz_nat {k : Nat} (h : 0 < k) : nz (k : Int) = some () := by
  unfold nz; rw [if_neg (by omega)]
theorem nneg_nat (k : Nat) : nneg (k : Int) = some () := by
  unfold nneg; rw [if_neg (by omega)]
section
variable {n : Nat} (hn : 100000000 ≤ n)
include hn
theorem p_load {b : gusts_blown} (hb : BOk b) {g : Gust} (hg : GOk b.ribs.length g) {i : Nat} (hi : i < b.ribs.length) : F_gusts_blown_load n b g (i : Int) = some (loadS b.lift b.shares g i) := by
  have _hn := hn
  have h1 := hb.r; have h2 := hb.s; have h3 := hg.a
  have h0 : 0 < b.shares.length := by omega
  have e : w64 (w64 ((i : Int) - g.At) + (b.shares.length : Int)) = ((i + b.shares.length - g.At.toNat : Nat) : Int) := by
    rw [w64_id (n := (i : Int) - g.At) (by omega) (by omega), w64_id (by omega) (by omega)]; omega
  obtain ⟨⟨p1, p2⟩, p3, p4⟩ := prod_in hb.l hb.sh hg.f h0 i
  have hd : 0 ≤ loadS b.lift b.shares g i ∧ loadS b.lift b.shares g i ≤ 19602 := load_in hb.l hb.sh hg.f h0 i
  simp only [F_gusts_blown_load, nz_nat h0, Option.bind_some, e, tmod_nat, geti_nat, share_get h0]
  rw [w64_id (n := g.Force * b.lift) (by omega) (by omega), w64_id (n := g.Force * b.lift * _) (by omega) (by omega)]
  show some (w64 (loadS b.lift b.shares g i)) = _
  rw [w64_id (by omega) (by omega)]
theorem walk_side {b : gusts_blown} (hb : BOk b) {g : Gust} (hg : GOk b.ribs.length g) (p : Nat → Bool) {i : Nat} (hi : i < b.ribs.length) {st : Nat} (hst : st < b.ribs.length) (hback : (i + b.ribs.length * st) % b.ribs.length = i) (hne : ∀ k, 1 ≤ k → k < b.ribs.length → (i + k * st) % b.ribs.length ≠ i) :
    ∀ (m k : Nat) (a : Int) (f : Nat), k + m = b.ribs.length → 1 ≤ k → 0 ≤ a → a ≤ 20000 * k → m < f →
      loopO f (F_gusts_blown_bears_s2 n b g i (enc b.ribs.length p) st) (a, (((i + k * st) % b.ribs.length : Nat) : Int)) = some (a + sideS (loadS b.lift b.shares g) p ((List.range' k m).map fun k => (i + k * st) % b.ribs.length)) := by
  have hr := hb.r
  have hL := load_ok hb hg
  intro m
  induction m with
  | zero =>
    intro k a f hk h1 h2 h3 hf
    have : k = b.ribs.length := by omega
    subst this
    rw [hback]
    refine loop_done ?_ hf
    simp [F_gusts_blown_bears_s2, sideS_nil]
  | succ m ih =>
    intro k a f hk h1 h2 h3 hf
    obtain ⟨f', rfl⟩ : ∃ z, f = z + 1 := ⟨f - 1, by omega⟩
    have hlt : (i + k * st) % b.ribs.length < b.ribs.length := Nat.mod_lt _ (by omega)
    have hne' := hne k h1 (by omega)
    have hneI : ((((i + k * st) % b.ribs.length : Nat) : Int) != (i : Int)) = true := by
      simp only [bne_iff_ne, ne_eq]; intro e; exact hne' (by exact_mod_cast e)
    have hbit := bit_eq1 (m := enc b.ribs.length p) (i := (i + k * st) % b.ribs.length) (enc_16 hr.2 p) (by omega)
    rw [enc_bit] at hbit
    simp only [hlt, decide_true, Bool.true_and] at hbit
    rw [List.range'_succ, List.map_cons, sideS_cons]
    have hl := hL _ hlt
    rw [loopO_succ]
    simp only [F_gusts_blown_bears_s2, hneI, if_true, nneg_nat, Option.bind_some, hbit]
    by_cases hp : p ((i + k * st) % b.ribs.length) = true
    · simp only [hp, if_true, p_load hn hb hg hlt, Option.bind_some, nz_nat (show 0 < b.ribs.length by omega)]
      have e : (w64 ((((i + k * st) % b.ribs.length : Nat) : Int) + (st : Int))).tmod (b.ribs.length : Int) = (((i + (k + 1) * st) % b.ribs.length : Nat) : Int) := by
        rw [w64_id (by omega) (by omega)]
        have : (((i + k * st) % b.ribs.length : Nat) : Int) + (st : Int) = (((i + k * st) % b.ribs.length + st : Nat) : Int) := by omega
        rw [this, tmod_nat, Nat.mod_add_mod, Nat.add_mul, Nat.one_mul, Nat.add_assoc]
      have ha : w64 (a + loadS b.lift b.shares g ((i + k * st) % b.ribs.length)) = a + loadS b.lift b.shares g ((i + k * st) % b.ribs.length) := w64_id (by omega) (by omega)
      rw [e, ha, ih (k + 1) _ f' (by omega) (by omega) (by omega) (by push_cast; omega) (by omega)]
      simp only [Option.some.injEq]
      omega
    · simp only [Bool.not_eq_true] at hp
      simp only [hp, Bool.false_eq_true, if_false, Int.add_zero]
theorem p_side {b : gusts_blown} (hb : BOk b) {g : Gust} (hg : GOk b.ribs.length g) (p : Nat → Bool) {i : Nat} (hi : i < b.ribs.length) {st : Nat} (hst : st < b.ribs.length) (hback : (i + b.ribs.length * st) % b.ribs.length = i) (hne : ∀ k, 1 ≤ k → k < b.ribs.length → (i + k * st) % b.ribs.length ≠ i) :
    loopO n (F_gusts_blown_bears_s2 n b g i (enc b.ribs.length p) st) (0, (w64 ((i : Int) + st)).tmod (b.ribs.length : Int)) = some (sideS (loadS b.lift b.shares g) p (path b.ribs.length i st)) := by
  have hr := hb.r
  have e : (w64 ((i : Int) + st)).tmod (b.ribs.length : Int) = (((i + 1 * st) % b.ribs.length : Nat) : Int) := by
    rw [w64_id (by omega) (by omega)]
    have : (i : Int) + (st : Int) = ((i + st : Nat) : Int) := by omega
    rw [this, tmod_nat, Nat.one_mul]
  rw [e, walk_side hn hb hg p hi hst hback hne (b.ribs.length - 1) 1 0 n (by omega) (by omega) (by omega) (by omega) (by omega)]
  simp [path]
omit hn in
theorem step1 {N i : Nat} (hi : i < N) : (i + N * 1) % N = i ∧ ∀ k, 1 ≤ k → k < N → (i + k * 1) % N ≠ i := by
  refine ⟨by rw [Nat.mul_one, Nat.add_mod_right, Nat.mod_eq_of_lt hi], fun k h1 h2 e => ?_⟩
  rw [Nat.mul_one] at e
  by_cases h : i + k < N
  · rw [Nat.mod_eq_of_lt h] at e; omega
  · rw [Nat.mod_eq_sub_mod (by omega), Nat.mod_eq_of_lt (by omega)] at e; omega
omit hn in
theorem back_mod {N i k : Nat} (hi : i < N) (hk : k ≤ N) : (i + k * (N - 1)) % N = (i + N - k) % N := by
  obtain ⟨M, rfl⟩ : ∃ M, N = M + 1 := ⟨N - 1, by omega⟩
  rw [Nat.add_sub_cancel]
  have : i + k * M + k = (i + (M + 1) - k) + k + (k - 1) * (M + 1) + (if k = 0 then 0 else 0) ∨ k = 0 := by
    cases k with
    | zero => exact .inr rfl
    | succ k =>
      left
      simp only [Nat.add_sub_cancel, ite_self, Nat.add_zero]
      have e1 : (k + 1) * M = k * M + M := by rw [Nat.add_mul, Nat.one_mul]
      have e2 : k * (M + 1) = k * M + k := by rw [Nat.mul_add, Nat.mul_one]
      omega
  rcases this with h | rfl
  · simp only [ite_self, Nat.add_zero] at h
    have h' : i + k * M = (i + (M + 1) - k) + (k - 1) * (M + 1) := by omega
    rw [h', Nat.add_mul_mod_self_right]
  · simp
omit hn in
theorem stepB {N i : Nat} (hi : i < N) : (i + N * (N - 1)) % N = i ∧ ∀ k, 1 ≤ k → k < N → (i + k * (N - 1)) % N ≠ i := by
  refine ⟨by rw [Nat.add_mul_mod_self_left, Nat.mod_eq_of_lt hi], fun k h1 h2 e => ?_⟩
  rw [back_mod hi (by omega)] at e
  by_cases h : i + N - k < N
  · rw [Nat.mod_eq_of_lt h] at e; omega
  · rw [Nat.mod_eq_sub_mod (by omega), Nat.mod_eq_of_lt (by omega)] at e; omega
theorem p_bears {b : gusts_blown} (hb : BOk b) {g : Gust} (hg : GOk b.ribs.length g) (p : Nat → Bool) {i : Nat} (hi : i < b.ribs.length) : F_gusts_blown_bears n b g i (enc b.ribs.length p) = some (bearsS (loadS b.lift b.shares g) p b.ribs.length i) := by
  have hr := hb.r
  have hL := load_ok hb hg
  have a1 := side_in hL (by omega) hr.2 p i 1
  have a2 := side_in hL (by omega) hr.2 p i (b.ribs.length - 1)
  have t1 := tdiv2_in a1.1 a1.2
  have t2 := tdiv2_in a2.1 a2.2
  have hl := hL i hi
  have s1 := p_side hn hb hg p hi (st := 1) (by omega) (step1 hi).1 (step1 hi).2
  have s2 := p_side hn hb hg p hi (st := b.ribs.length - 1) (by omega) (stepB hi).1 (stepB hi).2
  have c2 : w64 ((b.ribs.length : Int) - 1) = ((b.ribs.length - 1 : Nat) : Int) := by rw [w64_id (by omega) (by omega)]; omega
  have hnz := nz_nat (show 0 < b.ribs.length by omega)
  obtain ⟨m, rfl⟩ : ∃ m, n = m + 3 := ⟨n - 3, by omega⟩
  unfold F_gusts_blown_bears
  rw [p_load hn hb hg hi]
  simp only [Option.bind_some]
  have w1 : w64 ((0 : Int) + 1) = 1 := by decide
  have w2 : w64 ((1 : Int) + 1) = 2 := by decide
  have g0 : geti [1, w64 ((b.ribs.length : Int) - 1)] 0 = some ((1 : Nat) : Int) := rfl
  have g1 : geti [1, w64 ((b.ribs.length : Int) - 1)] 1 = some ((b.ribs.length - 1 : Nat) : Int) := by rw [c2]; rfl
  have st0 : F_gusts_blown_bears_s1 (m + 3) b g i (enc b.ribs.length p) (loadS b.lift b.shares g i, 0) = some (.inl (loadS b.lift b.shares g i + (sideS (loadS b.lift b.shares g) p (path b.ribs.length i 1)).tdiv 2, 1)) := by
    simp only [F_gusts_blown_bears_s1, show decide ((0 : Int) < 2) = true from rfl, if_true, g0, Option.bind_some, hnz, s1, w1]
    rw [w64_id (n := (sideS _ _ _).tdiv 2) (by omega) (by omega), w64_id (by omega) (by omega)]
  have st1 : F_gusts_blown_bears_s1 (m + 3) b g i (enc b.ribs.length p) (loadS b.lift b.shares g i + (sideS (loadS b.lift b.shares g) p (path b.ribs.length i 1)).tdiv 2, 1) = some (.inl (bearsS (loadS b.lift b.shares g) p b.ribs.length i, 2)) := by
    simp only [F_gusts_blown_bears_s1, show decide ((1 : Int) < 2) = true from rfl, if_true, g1, Option.bind_some, hnz, s2, w2]
    rw [w64_id (n := (sideS _ _ _).tdiv 2) (by omega) (by omega), w64_id (by omega) (by omega)]
    rfl
  have st2 : F_gusts_blown_bears_s1 (m + 3) b g i (enc b.ribs.length p) (bearsS (loadS b.lift b.shares g) p b.ribs.length i, 2) = some (.inr (bearsS (loadS b.lift b.shares g) p b.ribs.length i)) := by
    simp [F_gusts_blown_bears_s1]
  rw [loopO_succ, st0]
  simp only
  rw [loopO_succ, st1]
  simp only
  rw [loopO_succ, st2]
  rfl
def ribS (b : gusts_blown) (i : Nat) : Int := (b.ribs[i]?).getD 0
theorem p_round {b : gusts_blown} (hb : BOk b) {g : Gust} (hg : GOk b.ribs.length g) (p : Nat → Bool) :
    loopO n (I_gusts_blown_rounds_1_s2 n b g (enc b.ribs.length p)) ((enc b.ribs.length p : Nat), 0) = some ((enc b.ribs.length (stepS (loadS b.lift b.shares g) (ribS b) b.ribs.length p) : Nat) : Int) := by
  have hr := hb.r
  have kk := loop_fold (step := I_gusts_blown_rounds_1_s2 n b g (enc b.ribs.length p)) (List.range b.ribs.length) (fun i (z : Nat) => ((z : Int), (i : Int))) (fun z i => if (!p i && decide (ribS b i < bearsS (loadS b.lift b.shares g) p b.ribs.length i)) = true then z ||| 2 ^ i else z) (fun z => (z : Int)) (fun i z => z < 65536) (n := n) (enc b.ribs.length p) (enc_16 hr.2 p) (fun i x z hx hz => ?_) (fun z hz => ?_) (by simp; omega)
  · obtain ⟨k1, k2⟩ := kk
    rw [show ((0 : Nat) : Int) = 0 from rfl] at k1
    rw [k1]
    simp only [Option.some.injEq, Int.natCast_inj]
    refine enc_eq fun j => ?_
    rw [enc_fold (fun i => !p i && decide (ribS b i < bearsS (loadS b.lift b.shares g) p b.ribs.length i)), enc_bit]
    by_cases hj : j < b.ribs.length
    · simp only [List.contains_eq_mem, List.mem_range, hj, decide_true, Bool.true_and, stepS]
      cases p j <;> simp
    · simp [hj]
  · obtain ⟨hi, hxi⟩ := List.getElem?_eq_some_iff.1 hx
    simp at hi hxi
    subst hxi
    have h2i : 2 ^ i < 65536 := Nat.lt_of_lt_of_le (Nat.pow_lt_pow_right (by decide) (show i < 16 by omega)) (by decide)
    have hrib : b.ribs[i]? = some (ribS b i) := by simp [ribS, hi]
    have hbit := bit_eq0 (m := enc b.ribs.length p) (i := i) (enc_16 hr.2 p) (by omega)
    rw [enc_bit] at hbit
    simp only [hi, decide_true, Bool.true_and] at hbit
    refine ⟨?_, ?_⟩
    · simp only [I_gusts_blown_rounds_1_s2, lt_nat, hi, decide_true, if_true, geti_nat, hrib, Option.bind_some, nneg_nat, hbit, p_bears hn hb hg p hi, w64_nat (show i ≤ 4611686018427387904 by omega)]
      cases hp : p i
      · simp only [Bool.not_false, if_true, Option.bind_some, Bool.true_and, decide_eq_true_eq]
        by_cases hc : ribS b i < bearsS (loadS b.lift b.shares g) p b.ribs.length i
        · simp only [hc, if_true, decide_true, bshl_one (show i < 16 by omega), bor_nat hz h2i, Option.bind_some]
        · simp only [hc, if_false, Bool.false_eq_true, decide_false, Option.bind_some]
      · simp only [Bool.not_true, Bool.false_eq_true, if_false, Option.bind_some, Bool.false_and]
    · split
      · exact Nat.or_lt_two_pow (n := 16) hz h2i
      · exact hz
  · simp only [List.length_range, I_gusts_blown_rounds_1_s2]
    simp
/-- the rounds that are yielded: from round k on, as long as more go -/
def roundsL (L S : Nat → Int) (N : Nat) : Nat → Nat → List Int
  | 0, _ => []
  | m + 1, k => if enc N (G L S N (k + 1)) = enc N (G L S N k) then [] else (enc N (G L S N (k + 1)) : Int) :: roundsL L S N m (k + 1)
theorem p_rounds {b : gusts_blown} (hb : BOk b) {g : Gust} (hg : GOk b.ribs.length g) {σ ρ : Type} (cs : σ → Int → Option (σ ⊕ ρ)) (s : σ) : I_gusts_blown_rounds_1 n b g cs s = foldO cs s (roundsL (loadS b.lift b.shares g) (ribS b) b.ribs.length (b.ribs.length + 1) 0) := by
  have hr := hb.r
  have key : ∀ (m k : Nat) (s : σ) (f : Nat), left (loadS b.lift b.shares g) (ribS b) b.ribs.length k < m → m < f →
      loopO f (I_gusts_blown_rounds_1_s1 n b g cs) (((enc b.ribs.length (G (loadS b.lift b.shares g) (ribS b) b.ribs.length k) : Nat) : Int), s) = foldO cs s (roundsL (loadS b.lift b.shares g) (ribS b) b.ribs.length m k) := by
    intro m
    induction m with
    | zero => intro k s f h; omega
    | succ m ih =>
      intro k s f hk hf
      obtain ⟨f', rfl⟩ : ∃ z, f = z + 1 := ⟨f - 1, by omega⟩
      rw [loopO_succ, roundsL]
      simp only [I_gusts_blown_rounds_1_s1, p_round hn hb hg, Option.bind_some]
      rw [show stepS (loadS b.lift b.shares g) (ribS b) b.ribs.length (G (loadS b.lift b.shares g) (ribS b) b.ribs.length k) = G (loadS b.lift b.shares g) (ribS b) b.ribs.length (k + 1) from rfl]
      by_cases he : enc b.ribs.length (G (loadS b.lift b.shares g) (ribS b) b.ribs.length (k + 1)) = enc b.ribs.length (G (loadS b.lift b.shares g) (ribS b) b.ribs.length k)
      · simp [he, foldO]
      · have he' : (((enc b.ribs.length (G (loadS b.lift b.shares g) (ribS b) b.ribs.length (k + 1)) : Nat) : Int) == ((enc b.ribs.length (G (loadS b.lift b.shares g) (ribS b) b.ribs.length k) : Nat) : Int)) = false := by
          simp only [beq_eq_false_iff_ne, ne_eq, Int.natCast_inj]; exact he
        have hnf : ¬ fixd (loadS b.lift b.shares g) (ribS b) b.ribs.length k := fun h => he (enc_inj.2 h)
        have hl := left_lt hnf
        simp only [he', Bool.false_eq_true, if_false, he, foldO]
        cases hc : cs s ((enc b.ribs.length (G (loadS b.lift b.shares g) (ribS b) b.ribs.length (k + 1)) : Nat) : Int) with
        | none => simp
        | some y =>
          cases y with
          | inl s' => simp only [Option.bind_some]; exact ih (k + 1) s' f' (by omega) (by omega)
          | inr r => simp
  have h0 : enc b.ribs.length (G (loadS b.lift b.shares g) (ribS b) b.ribs.length 0) = 0 := enc_zero.2 fun _ _ => rfl
  have := key (b.ribs.length + 1) 0 s n (by have := left_le (loadS b.lift b.shares g) (ribS b) b.ribs.length 0; omega) (by omega)
  rw [h0] at this
  exact this
theorem p_first {b : gusts_blown} (hb : BOk b) {g : Gust} (hg : GOk b.ribs.length g) : F_gusts_blown_first n b g = some ((enc b.ribs.length (G (loadS b.lift b.shares g) (ribS b) b.ribs.length 1) : Nat) : Int) := by
  have h0 : enc b.ribs.length (G (loadS b.lift b.shares g) (ribS b) b.ribs.length 0) = 0 := enc_zero.2 fun _ _ => rfl
  simp only [F_gusts_blown_first, F_gusts_blown_rounds, Option.bind_some, p_rounds hn hb hg, roundsL, h0, Nat.zero_add]
  by_cases he : enc b.ribs.length (G (loadS b.lift b.shares g) (ribS b) b.ribs.length 1) = 0
  · simp [he, foldO]
  · simp [he, foldO, F_gusts_blown_first_s1]
/-- a set's numbers -/
def listS (N : Nat) (p : Nat → Bool) : List Int := ((List.range N).filter p).map fun i : Nat => (i : Int)
theorem p_list {N : Nat} (hN : N ≤ 10) (p : Nat → Bool) : F_gusts_ribs_list n (enc N p : Nat) = some (listS N p) := by
  have kk := loop_fold (step := F_gusts_ribs_list_s1 n (enc N p : Nat)) (List.range 10) (fun i (z : List Int) => ((i : Int), z)) (fun z i => if (decide (i < N) && p i) = true then z ++ [(i : Int)] else z) (fun z => z) (fun i z => z.length ≤ i) (n := n) [] (by simp) (fun i x z hx hz => ?_) (fun z hz => ?_) (by simp; omega)
  · obtain ⟨k1, _⟩ := kk
    unfold F_gusts_ribs_list
    rw [show ((0 : Nat) : Int) = 0 from rfl] at k1
    rw [k1]
    have e : ∀ (l : List Nat) (out : List Int), l.foldl (fun z i => if (decide (i < N) && p i) = true then z ++ [(i : Int)] else z) out = out ++ ((l.filter fun i => decide (i < N) && p i).map fun i : Nat => (i : Int)) := by
      intro l
      induction l with
      | nil => simp
      | cons a l ih =>
        intro out
        rw [List.foldl_cons, ih, List.filter_cons]
        split <;> simp
    rw [e]
    simp only [Option.bind_some, List.nil_append, listS]
    have h10 : List.range 10 = List.range N ++ (List.range (10 - N)).map (N + ·) := by
      rw [← List.range_add]; congr 1; omega
    rw [h10, List.filter_append]
    have f1 : (List.range N).filter (fun i => decide (i < N) && p i) = (List.range N).filter p := by
      apply List.filter_congr
      intro x hx
      simp [List.mem_range.1 hx]
    have f2 : ((List.range (10 - N)).map (N + ·)).filter (fun i => decide (i < N) && p i) = [] := by
      rw [List.filter_eq_nil_iff]
      intro x hx
      obtain ⟨y, _, rfl⟩ := List.mem_map.1 hx
      have : ¬ N + y < N := by omega
      simp [this]
    rw [f1, f2, List.append_nil]
  · obtain ⟨hi, hxi⟩ := List.getElem?_eq_some_iff.1 hx
    simp at hi hxi
    subst hxi
    have hbit := bit_eq1 (m := enc N p) (i := i) (enc_16 hN p) (by omega)
    rw [enc_bit] at hbit
    have hd : decide ((i : Int) < 10) = true := by simp; omega
    refine ⟨?_, ?_⟩
    · simp only [F_gusts_ribs_list_s1, hd, if_true, nneg_nat, Option.bind_some, hbit, w64_nat (show i ≤ 4611686018427387904 by omega)]
      by_cases hc : (decide (i < N) && p i) = true
      · rw [if_pos hc, if_pos hc, lim_ok (by simp; omega)]; rfl
      · rw [if_neg hc, if_neg hc]; rfl
    · split
      · rw [List.length_append]; simp; omega
      · omega
  · simp [F_gusts_ribs_list_s1]
end
end Go.Proofs.Yteihdclpiekmaaa
end
section
namespace Go.Proofs.Yteihdclpiekmaaa
open Go Go.RowKit Go.Dec
set_option linter.unusedVariables false
section
variable {n : Nat} (hn : 100000000 ≤ n)
include hn
theorem p_ContainsSpan (s : List Span) (f : Span → Option Bool) (p : Span → Bool) (hf : ∀ x, x ∈ s → f x = some (p x)) (hs : s.length ≤ 1000) : F_slices_ContainsFunc___api_Span_api_Span_ n s f = some (s.any p) := by
  have : ∃ k, F_slices_IndexFunc___api_Span_api_Span_ n s f = some k ∧ decide (0 ≤ k) = s.any p := by
    by_cases h : s.any p = true
    · have : ∃ i : Nat, ∃ x, s[i]? = some x ∧ p x = true ∧ ∀ (j : Nat) y, j < i → s[j]? = some y → p y = false := first_of h
      obtain ⟨i, x, h1, h2, h3⟩ := this
      have hil := (List.getElem?_eq_some_iff.1 h1).1
      refine ⟨i, ?_, by rw [h]; simp⟩
      have := loop_run (step := F_slices_IndexFunc___api_Span_api_Span__s1 n s f) (fun j => (j : Int)) (r := .inl (i : Int)) i 0 n (fun j _ hj => ?_) ?_ (by omega)
      · unfold F_slices_IndexFunc___api_Span_api_Span_
        simp only [Int.natCast_zero] at this
        rw [this]; rfl
      · have hj' : j < s.length := by omega
        have e : s[j]? = some s[j] := List.getElem?_eq_getElem hj'
        simp only [F_slices_IndexFunc___api_Span_api_Span__s1, geti_nat, e, Option.bind_some, hf _ (List.getElem_mem hj'), h3 j _ (by omega) e, lt_nat, hj', decide_true, if_true, Bool.false_eq_true, if_false, w64_nat (show j ≤ 4611686018427387904 by omega)]
      · simp only [Nat.zero_add, F_slices_IndexFunc___api_Span_api_Span__s1, geti_nat, h1, Option.bind_some, hf _ (List.mem_of_getElem? h1), h2, lt_nat, hil, decide_true, if_true]
    · have hno : ∀ x ∈ s, p x = false := fun x hx => by
        cases hp : p x with
        | false => rfl
        | true => exact absurd (List.any_eq_true.2 ⟨x, hx, hp⟩) h
      refine ⟨-1, ?_, by simp only [Bool.not_eq_true] at h; rw [h]; rfl⟩
      have := loop_all_l (step := F_slices_IndexFunc___api_Span_api_Span__s1 n s f) s (fun _ => true) (0 : Int) (n := n) (by omega) (fun i x hx hi => ?_) ?_ (by omega)
      · unfold F_slices_IndexFunc___api_Span_api_Span_; rw [this, show (s.all fun _ => true) = true by simp]; rfl
      · simp only [F_slices_IndexFunc___api_Span_api_Span__s1, geti_nat, hx, Option.bind_some, hf _ (List.mem_of_getElem? hx), hno _ (List.mem_of_getElem? hx), lt_nat, hi, decide_true, if_true, cond_true, Bool.false_eq_true, if_false, w64_nat (show i ≤ 4611686018427387904 by omega)]
      · simp [F_slices_IndexFunc___api_Span_api_Span__s1]
  obtain ⟨k, h1, h2⟩ := this
  simp only [F_slices_ContainsFunc___api_Span_api_Span_, h1, Option.bind_some, h2]
theorem p_ContainsInt (s : List Int) (f : Int → Option Bool) (p : Int → Bool) (hf : ∀ x, x ∈ s → f x = some (p x)) (hs : s.length ≤ 1000) : F_slices_ContainsFunc___int_int_ n s f = some (s.any p) := by
  have : ∃ k, F_slices_IndexFunc___int_int_ n s f = some k ∧ decide (0 ≤ k) = s.any p := by
    by_cases h : s.any p = true
    · have : ∃ i : Nat, ∃ x, s[i]? = some x ∧ p x = true ∧ ∀ (j : Nat) y, j < i → s[j]? = some y → p y = false := first_of h
      obtain ⟨i, x, h1, h2, h3⟩ := this
      have hil := (List.getElem?_eq_some_iff.1 h1).1
      refine ⟨i, ?_, by rw [h]; simp⟩
      have := loop_run (step := F_slices_IndexFunc___int_int__s1 n s f) (fun j => (j : Int)) (r := .inl (i : Int)) i 0 n (fun j _ hj => ?_) ?_ (by omega)
      · unfold F_slices_IndexFunc___int_int_
        simp only [Int.natCast_zero] at this
        rw [this]; rfl
      · have hj' : j < s.length := by omega
        have e : s[j]? = some s[j] := List.getElem?_eq_getElem hj'
        simp only [F_slices_IndexFunc___int_int__s1, geti_nat, e, Option.bind_some, hf _ (List.getElem_mem hj'), h3 j _ (by omega) e, lt_nat, hj', decide_true, if_true, Bool.false_eq_true, if_false, w64_nat (show j ≤ 4611686018427387904 by omega)]
      · simp only [Nat.zero_add, F_slices_IndexFunc___int_int__s1, geti_nat, h1, Option.bind_some, hf _ (List.mem_of_getElem? h1), h2, lt_nat, hil, decide_true, if_true]
    · have hno : ∀ x ∈ s, p x = false := fun x hx => by
        cases hp : p x with
        | false => rfl
        | true => exact absurd (List.any_eq_true.2 ⟨x, hx, hp⟩) h
      refine ⟨-1, ?_, by simp only [Bool.not_eq_true] at h; rw [h]; rfl⟩
      have := loop_all_l (step := F_slices_IndexFunc___int_int__s1 n s f) s (fun _ => true) (0 : Int) (n := n) (by omega) (fun i x hx hi => ?_) ?_ (by omega)
      · unfold F_slices_IndexFunc___int_int_; rw [this, show (s.all fun _ => true) = true by simp]; rfl
      · simp only [F_slices_IndexFunc___int_int__s1, geti_nat, hx, Option.bind_some, hf _ (List.mem_of_getElem? hx), hno _ (List.mem_of_getElem? hx), lt_nat, hi, decide_true, if_true, cond_true, Bool.false_eq_true, if_false, w64_nat (show i ≤ 4611686018427387904 by omega)]
      · simp [F_slices_IndexFunc___int_int__s1]
  obtain ⟨k, h1, h2⟩ := this
  simp only [F_slices_ContainsFunc___int_int_, h1, Option.bind_some, h2]
theorem p_ContainsGust (s : List Gust) (f : Gust → Option Bool) (p : Gust → Bool) (hf : ∀ x, x ∈ s → f x = some (p x)) (hs : s.length ≤ 1000) : F_slices_ContainsFunc___api_Gust_api_Gust_ n s f = some (s.any p) := by
  have : ∃ k, F_slices_IndexFunc___api_Gust_api_Gust_ n s f = some k ∧ decide (0 ≤ k) = s.any p := by
    by_cases h : s.any p = true
    · have : ∃ i : Nat, ∃ x, s[i]? = some x ∧ p x = true ∧ ∀ (j : Nat) y, j < i → s[j]? = some y → p y = false := first_of h
      obtain ⟨i, x, h1, h2, h3⟩ := this
      have hil := (List.getElem?_eq_some_iff.1 h1).1
      refine ⟨i, ?_, by rw [h]; simp⟩
      have := loop_run (step := F_slices_IndexFunc___api_Gust_api_Gust__s1 n s f) (fun j => (j : Int)) (r := .inl (i : Int)) i 0 n (fun j _ hj => ?_) ?_ (by omega)
      · unfold F_slices_IndexFunc___api_Gust_api_Gust_
        simp only [Int.natCast_zero] at this
        rw [this]; rfl
      · have hj' : j < s.length := by omega
        have e : s[j]? = some s[j] := List.getElem?_eq_getElem hj'
        simp only [F_slices_IndexFunc___api_Gust_api_Gust__s1, geti_nat, e, Option.bind_some, hf _ (List.getElem_mem hj'), h3 j _ (by omega) e, lt_nat, hj', decide_true, if_true, Bool.false_eq_true, if_false, w64_nat (show j ≤ 4611686018427387904 by omega)]
      · simp only [Nat.zero_add, F_slices_IndexFunc___api_Gust_api_Gust__s1, geti_nat, h1, Option.bind_some, hf _ (List.mem_of_getElem? h1), h2, lt_nat, hil, decide_true, if_true]
    · have hno : ∀ x ∈ s, p x = false := fun x hx => by
        cases hp : p x with
        | false => rfl
        | true => exact absurd (List.any_eq_true.2 ⟨x, hx, hp⟩) h
      refine ⟨-1, ?_, by simp only [Bool.not_eq_true] at h; rw [h]; rfl⟩
      have := loop_all_l (step := F_slices_IndexFunc___api_Gust_api_Gust__s1 n s f) s (fun _ => true) (0 : Int) (n := n) (by omega) (fun i x hx hi => ?_) ?_ (by omega)
      · unfold F_slices_IndexFunc___api_Gust_api_Gust_; rw [this, show (s.all fun _ => true) = true by simp]; rfl
      · simp only [F_slices_IndexFunc___api_Gust_api_Gust__s1, geti_nat, hx, Option.bind_some, hf _ (List.mem_of_getElem? hx), hno _ (List.mem_of_getElem? hx), lt_nat, hi, decide_true, if_true, cond_true, Bool.false_eq_true, if_false, w64_nat (show i ≤ 4611686018427387904 by omega)]
      · simp [F_slices_IndexFunc___api_Gust_api_Gust__s1]
  obtain ⟨k, h1, h2⟩ := this
  simp only [F_slices_ContainsFunc___api_Gust_api_Gust_, h1, Option.bind_some, h2]
end
def okRib (s : Span) : Bool := wi s.Low 0 s.High && decide (s.High ≤ 99999)
def okSh (x : Int) : Bool := wi x 0 99
def okD (d : Canopy) : Bool := okF d.Frame && wi d.Ribs.length 3 10 && ((d.Shares.length : Int) == (d.Ribs.length : Int)) && d.Ribs.all okRib && d.Shares.all okSh
def okGust (d : Canopy) (g : Gust) : Bool := wi g.Force 0 99 && wi g.At 0 ((d.Ribs.length : Int) - 1)
structure DOk (d : Canopy) : Prop where
  f : FOk d.Frame
  r : 3 ≤ d.Ribs.length ∧ d.Ribs.length ≤ 10
  s : d.Shares.length = d.Ribs.length
  ribs : ∀ s ∈ d.Ribs, 0 ≤ s.Low ∧ s.Low ≤ s.High ∧ s.High ≤ 99999
  sh : ∀ x ∈ d.Shares, 0 ≤ x ∧ x ≤ 99
theorem okD_iff {d : Canopy} : okD d = true ↔ DOk d := by
  simp only [okD, Bool.and_eq_true, okF_iff, wi_t, beq_iff_eq, List.all_eq_true, okRib, okSh, decide_eq_true_eq]
  constructor
  · rintro ⟨⟨⟨⟨h1, h2⟩, h3⟩, h4⟩, h5⟩
    exact ⟨h1, by omega, by omega, fun s hs => by have := h4 s hs; omega, h5⟩
  · rintro ⟨h1, h2, h3, h4, h5⟩
    exact ⟨⟨⟨⟨h1, by omega⟩, by omega⟩, fun s hs => by have := h4 s hs; omega⟩, h5⟩
def Small (d : Canopy) : Prop := d.Frame.Sections.length ≤ 1000 ∧ d.Ribs.length ≤ 1000 ∧ d.Shares.length ≤ 1000
theorem DOk.small {d : Canopy} (h : DOk d) : Small d := by
  have := h.r; have := h.s; have := h.f.n
  exact ⟨by omega, by omega, by omega⟩
def askG (d : Canopy) (l : List Gust) : Int := if okD d = true then (if (decide (l.length ≤ 20) && l.all (okGust d)) = true then 0 else 1) else 50
theorem okGust_iff {d : Canopy} {g : Gust} : okGust d g = true ↔ GOk d.Ribs.length g := by
  simp only [okGust, Bool.and_eq_true, wi_t]
  constructor
  · rintro ⟨h1, h2⟩; exact ⟨h1, by omega⟩
  · rintro ⟨h1, h2⟩; exact ⟨h1, by omega⟩
theorem askG_ok {d : Canopy} {l : List Gust} : askG d l = 0 ↔ DOk d ∧ l.length ≤ 20 ∧ ∀ g ∈ l, GOk d.Ribs.length g := by
  unfold askG
  by_cases h : okD d = true
  · rw [if_pos h]
    by_cases h2 : (decide (l.length ≤ 20) && l.all (okGust d)) = true
    · rw [if_pos h2]
      simp only [Bool.and_eq_true, decide_eq_true_eq, List.all_eq_true, okGust_iff] at h2
      exact ⟨fun _ => ⟨okD_iff.1 h, h2⟩, fun _ => rfl⟩
    · rw [if_neg h2]
      simp only [Bool.and_eq_true, decide_eq_true_eq, List.all_eq_true, okGust_iff] at h2
      exact ⟨fun h => by simp at h, fun h => absurd h.2 h2⟩
  · rw [if_neg h]
    exact ⟨fun h => by simp at h, fun h2 => absurd (okD_iff.2 h2.1) h⟩
def ofL (c : Frac) : Int := min 200 (max 0 (100 + (100 * c.Num) / c.Den))
theorem ofL_in (c : Frac) : 0 ≤ ofL c ∧ ofL c ≤ 200 := by unfold ofL; omega
theorem floor_of {a b : Int} (hb : 0 < b) : (if a.tmod b < 0 then a.tdiv b - 1 else a.tdiv b) = a / b := by
  have h1 := Int.mul_tdiv_add_tmod a b
  have h2 := Int.tmod_lt_of_pos a hb
  have h3 : -b < a.tmod b := Int.lt_tmod_of_pos a hb
  split
  · have := (Int.ediv_emod_unique (a := a) (b := b) (q := a.tdiv b - 1) (r := a.tmod b + b) hb).2 ⟨by rw [Int.mul_sub, Int.mul_one]; omega, by omega, by omega⟩
    exact this.1.symm
  · have := (Int.ediv_emod_unique (a := a) (b := b) (q := a.tdiv b) (r := a.tmod b) hb).2 ⟨by omega, by omega, by omega⟩
    exact this.1.symm
theorem tdiv_abs {a b M : Int} (h1 : -M ≤ a) (h2 : a ≤ M) : -M ≤ a.tdiv b ∧ a.tdiv b ≤ M := by
  have h := Int.natAbs_tdiv a b
  have h3 := Nat.div_le_self a.natAbs b.natAbs
  have : (a.tdiv b).natAbs ≤ a.natAbs := by rw [h]; exact h3
  omega
theorem ofL_red {c : Frac} (h : 1 ≤ c.Den) : ofL (red c) = ofL c := by
  obtain ⟨g, h1, _, h3, h4, h5⟩ := red_spec h
  unfold ofL
  rw [h3, h4, show 100 * (g * (red c).Num) = g * (100 * (red c).Num) by rw [Int.mul_left_comm], Int.mul_ediv_mul_of_pos _ _ (by omega)]
theorem ofL_mono {x y : Frac} (hx : 1 ≤ x.Den) (hy : 1 ≤ y.Den) (h : ltF y x = false) : ofL x ≤ ofL y := by
  have h' : x.Num * y.Den ≤ y.Num * x.Den := by simp [ltF] at h; omega
  have key : 100 * x.Num / x.Den ≤ 100 * y.Num / y.Den := by
    rw [Int.le_ediv_iff_mul_le (by omega)]
    have h1 : (100 * x.Num / x.Den) * x.Den ≤ 100 * x.Num := Int.ediv_mul_le _ (by omega)
    have h2 : (100 * x.Num / x.Den) * x.Den * y.Den ≤ 100 * x.Num * y.Den := Int.mul_le_mul_of_nonneg_right h1 (by omega)
    have h3 : (100 * x.Num / x.Den) * y.Den * x.Den ≤ 100 * y.Num * x.Den := by
      rw [Int.mul_right_comm]
      refine Int.le_trans h2 ?_
      rw [Int.mul_assoc, Int.mul_assoc]; omega
    exact Int.le_of_mul_le_mul_right h3 (by omega)
  unfold ofL; omega
def liftAt (d : Canopy) (x : frames_sides) : Int := ofL (cosF d.Frame.Low x)
def liftS (d : Canopy) : Span := ⟨ofL (lowF d.Frame.Low (sidesL (secAt d.Frame 0))), ofL (highF d.Frame.Low (sidesL (secAt d.Frame 0)))⟩
theorem sec0 {d : Canopy} (hd : DOk d) : SecOk (secAt d.Frame 0) := hd.f.s _ (secAt_mem (by have := hd.f.n; omega))
theorem lift_spec {d : Canopy} (hd : DOk d) : (∀ x ∈ sidesL (secAt d.Frame 0), (liftS d).Low ≤ liftAt d x ∧ liftAt d x ≤ (liftS d).High) ∧ (∃ x ∈ sidesL (secAt d.Frame 0), liftAt d x = (liftS d).Low) ∧ (∃ x ∈ sidesL (secAt d.Frame 0), liftAt d x = (liftS d).High) := by
  have hl := hd.f.r
  have hs := sec0 hd
  have hd1 : 1 ≤ d.Frame.Low ∧ d.Frame.Low ≤ 6000 := by omega
  have hx : ∀ x ∈ sidesL (secAt d.Frame 0), XOk x := fun x hx => sides_ok hs hx
  have hne := sides_ne hs
  obtain ⟨⟨⟨a, ha, ea⟩, h1⟩, ⟨b, hb, eb⟩, h2⟩ := low_spec hd1 _ hx hne
  have hlo := low_ok hd1 _ hx hne
  refine ⟨fun x hxm => ⟨?_, ?_⟩, ⟨a, ha, ?_⟩, ⟨b, hb, ?_⟩⟩
  · exact ofL_mono hlo.1.1.1 (cos_ok hd1 (hx x hxm)).1.1.1 (h1 x hxm)
  · exact ofL_mono (cos_ok hd1 (hx x hxm)).1.1.1 hlo.2.1.1 (h2 x hxm)
  · show ofL _ = ofL _; rw [ea]
  · show ofL _ = ofL _; rw [eb]
theorem lift_in {d : Canopy} (hd : DOk d) : 0 ≤ (liftS d).Low ∧ (liftS d).Low ≤ (liftS d).High ∧ (liftS d).High ≤ 200 := by
  obtain ⟨h1, ⟨x, hx, e⟩, _⟩ := lift_spec hd
  have := h1 x hx
  have h2 : 0 ≤ (liftS d).Low := (ofL_in (lowF d.Frame.Low (sidesL (secAt d.Frame 0)))).1
  have h3 : (liftS d).High ≤ 200 := (ofL_in (highF d.Frame.Low (sidesL (secAt d.Frame 0)))).2
  exact ⟨h2, by omega, h3⟩
def bestB (d : Canopy) : gusts_blown := ⟨(liftS d).Low, d.Ribs.map (·.High), d.Shares⟩
def worstB (d : Canopy) : gusts_blown := ⟨(liftS d).High, d.Ribs.map (·.Low), d.Shares⟩
theorem best_ok {d : Canopy} (hd : DOk d) : BOk (bestB d) := by
  have := lift_in hd; have := hd.r
  exact ⟨by simpa [bestB] using hd.r, by simpa [bestB] using hd.s, by simp only [bestB]; omega, hd.sh⟩
theorem worst_ok {d : Canopy} (hd : DOk d) : BOk (worstB d) := by
  have := lift_in hd; have := hd.r
  exact ⟨by simpa [worstB] using hd.r, by simpa [worstB] using hd.s, by simp only [worstB]; omega, hd.sh⟩
def ldB (d : Canopy) (g : Gust) : Nat → Int := loadS (liftS d).Low d.Shares g
def ldW (d : Canopy) (g : Gust) : Nat → Int := loadS (liftS d).High d.Shares g
def stB (d : Canopy) (i : Nat) : Int := ((d.Ribs.map (·.High))[i]?).getD 0
def stW (d : Canopy) (i : Nat) : Int := ((d.Ribs.map (·.Low))[i]?).getD 0
def firstP (d : Canopy) (g : Gust) : Nat → Bool := G (ldW d g) (stW d) d.Ribs.length 1
def firstB (d : Canopy) (g : Gust) : Nat → Bool := G (ldB d g) (stB d) d.Ribs.length 1
def noneP (N : Nat) (p : Nat → Bool) : Bool := (List.range N).all fun i => !p i
theorem noneP_iff {N : Nat} {p : Nat → Bool} : noneP N p = true ↔ ∀ i, i < N → p i = false := by simp [noneP]
theorem enc_none {N : Nat} {p : Nat → Bool} : (((enc N p : Nat) : Int) == 0) = noneP N p := by
  rw [Bool.eq_iff_iff, noneP_iff]
  simp only [beq_iff_eq]
  rw [show (0 : Int) = ((0 : Nat) : Int) from rfl, Int.natCast_inj]
  exact enc_zero
def liftT (d : Canopy) : Span × Int := if okD d = true then (liftS d, 0) else (⟨0, 0⟩, 50)
def standsI (d : Canopy) (l : List Gust) : Int := if (l.all fun g => noneP d.Ribs.length (firstP d g)) = true then 1 else if (l.all fun g => noneP d.Ribs.length (firstB d g)) = true then 3 else 2
def standsT (d : Canopy) (l : List Gust) : Int × Int := if askG d l = 0 then (standsI d l, 0) else (0, askG d l)
def weakP (d : Canopy) (l : List Gust) (i : Nat) : Bool := l.any fun g => firstP d g i
def weakT (d : Canopy) (l : List Gust) : List Int × Int := if askG d l = 0 then (listS d.Ribs.length (weakP d l), 0) else ([], askG d l)
section
variable {n : Nat} (hn : 100000000 ≤ n)
include hn
theorem p_gCheck {d : Canopy} (hs : Small d) : F_gusts_Check n d = some (if okD d = true then 0 else 50) := by
  have c1 := p_ContainsSpan hn d.Ribs (fun a0_ => F_gusts_Check_1 n a0_) (fun s => !okRib s) (fun s _ => by
    show some ((!wi s.Low 0 s.High) || decide (99999 < s.High)) = _
    have : decide (99999 < s.High) = !decide (s.High ≤ 99999) := by rw [← decide_not]; congr 1; simp
    rw [this, okRib, Bool.not_and]) hs.2.1
  have c2 := p_ContainsInt hn d.Shares (fun a0_ => F_gusts_Check_2 n a0_) (fun s => !okSh s) (fun s _ => rfl) hs.2.2
  have e1 : (d.Ribs.any fun s => !okRib s) = !d.Ribs.all okRib := by simp [List.any_eq_not_all_not]
  have e2 : (d.Shares.any fun s => !okSh s) = !d.Shares.all okSh := by simp [List.any_eq_not_all_not]
  have e3 : ((if okF d.Frame = true then (0 : Int) else 10) != 0) = !okF d.Frame := by cases okF d.Frame <;> rfl
  have ew : ∀ a b c, F_gusts_within n a b c = some (wi a b c) := fun _ _ _ => rfl
  simp only [F_gusts_Check, p_Check hn hs.1, Option.bind_some, e3, ew, or_br, c1, c2, e1, e2]
  have e4 : ((d.Shares.length : Int) != (d.Ribs.length : Int)) = !((d.Shares.length : Int) == (d.Ribs.length : Int)) := rfl
  have e : ((((!okF d.Frame || !wi (↑d.Ribs.length) 3 10) || !((d.Shares.length : Int) == (d.Ribs.length : Int))) || !d.Ribs.all okRib) || !d.Shares.all okSh) = !okD d := by
    simp only [okD, Bool.not_and]
  rw [e4, e]
  cases okD d <;> rfl
theorem p_gask {d : Canopy} (hs : Small d) {l : List Gust} (hl : l.length ≤ 1000) : F_gusts_ask n d l = some (askG d l) := by
  have ew : ∀ a b c, F_gusts_within n a b c = some (wi a b c) := fun _ _ _ => rfl
  have c := p_ContainsGust hn l (fun a0_ => F_gusts_ask_1 n a0_ d) (fun g => !okGust d g) (fun g _ => by
    simp only [F_gusts_ask_1, ew, Option.bind_some, or_br, okGust, Bool.not_and]
    rw [w64_id (by have := hs.2.1; omega) (by have := hs.2.1; omega)]) hl
  have e1 : (l.any fun g => !okGust d g) = !l.all (okGust d) := by simp [List.any_eq_not_all_not]
  simp only [F_gusts_ask, p_gCheck hn hs, Option.bind_some, c, e1, or_br, askG]
  cases okD d
  · rfl
  · simp only [if_true, bne_self_eq_false, Bool.false_eq_true, if_false]
    have e2 : (decide (20 < (l.length : Int)) || !l.all (okGust d)) = !(decide (l.length ≤ 20) && l.all (okGust d)) := by
      rw [Bool.not_and]
      congr 1
      rw [← decide_not]; congr 1; simp; omega
    rw [e2]
    cases (decide (l.length ≤ 20) && l.all (okGust d)) <;> rfl
theorem p_of {c : Frac} (h : FracOk c) : F_gusts_lift_1 n c = some (ofL c) := by
  have _hn := hn
  obtain ⟨⟨h1, h2⟩, h3, h4⟩ := h
  have hb : 0 < c.Den := by omega
  have hd := tdiv_abs (a := 100 * c.Num) (b := c.Den) (M := 4000000000) (by omega) (by omega)
  have hf := floor_of (a := 100 * c.Num) hb
  have hz : nz c.Den = some () := by unfold nz; rw [if_neg (by omega)]
  simp only [F_gusts_lift_1, F_gusts_down, hz, Option.bind_some]
  rw [w64_id (n := 100 * c.Num) (by omega) (by omega), w64_id (n := (100 * c.Num).tdiv c.Den) (by omega) (by omega), w64_id (n := (100 * c.Num).tdiv c.Den - 1) (by omega) (by omega)]
  unfold ofL
  rw [← hf]
  by_cases hc : (100 * c.Num).tmod c.Den < 0
  · simp only [hc, decide_true, if_true, Option.bind_some]
    rw [w64_id (by omega) (by omega)]
  · simp only [hc, decide_false, Bool.false_eq_true, if_false, Option.bind_some]
    rw [w64_id (by omega) (by omega)]
theorem p_lift {d : Canopy} (hd : DOk d) : F_gusts_lift n d = some (liftS d) := by
  have hl := hd.f.r
  have hs := sec0 hd
  have hd1 : 1 ≤ d.Frame.Low ∧ d.Frame.Low ≤ 6000 := by omega
  have hlo := low_ok hd1 _ (fun x hx => sides_ok hs hx) (sides_ne hs)
  have ha : askT d.Frame 0 d.Frame.Low = 0 := ask_zero (okF_iff.2 hd.f) (by
    have := hd.f.n
    simp only [Bool.and_eq_true, wi_t]; omega)
  have hdist : dist d.Frame 0 d.Frame.Low = d.Frame.Low := by
    have : (d.Frame.Sections.take (0 + 1)).drop 1 = [] := by cases d.Frame.Sections <;> simp
    unfold dist; rw [this]; rfl
  have e : cosineT d.Frame 0 d.Frame.Low = (red (lowF d.Frame.Low (sidesL (secAt d.Frame 0))), red (highF d.Frame.Low (sidesL (secAt d.Frame 0))), 0) := by
    unfold cosineT
    rw [if_pos ha, show (0 : Int).toNat = 0 from rfl, hdist, if_neg (by omega)]
  simp only [F_gusts_lift, p_Cosine hn hd.small.1, e, Option.bind_some, p_of hn (red_ok hlo.1), p_of hn (red_ok hlo.2), ofL_red hlo.1.1.1, ofL_red hlo.2.1.1]
  rfl
theorem p_ends {d : Canopy} (hd : DOk d) : F_gusts_ends n d = some (bestB d, worstB d) := by
  have hr := hd.r
  have kk := loop_fold (step := F_gusts_ends_s1 n d) d.Ribs (fun i (z : List Int × List Int) => ((i : Int), z.1, z.2)) (fun z s => (z.1 ++ [s.High], z.2 ++ [s.Low])) (fun z => (z.1, z.2)) (fun i z => z.1.length = i ∧ z.2.length = i) (n := n) ([], []) ⟨rfl, rfl⟩ (fun i x z hx hz => ?_) (fun z hz => ?_) (by omega)
  · have k1 := kk.1
    rw [show ((0 : Nat) : Int) = 0 from rfl] at k1
    simp only at k1
    simp only [F_gusts_ends, p_lift hn hd, Option.bind_some, k1, bestB, worstB]
    have e := foldl_pair (fun (z : List Int) (s : Span) => z ++ [s.High]) (fun (z : List Int) (s : Span) => z ++ [s.Low]) d.Ribs [] []
    rw [e, foldl_append_map, foldl_append_map]
    rfl
  · have hi := (List.getElem?_eq_some_iff.1 hx).1
    refine ⟨?_, ?_⟩
    · simp only [F_gusts_ends_s1, lt_nat, hi, decide_true, if_true, geti_nat, hx, Option.bind_some]
      rw [lim_ok (by simp; omega), lim_ok (by simp; omega)]
      simp only [Option.bind_some, w64_nat (show i ≤ 4611686018427387904 by omega)]
    · simp [hz.1, hz.2]
  · simp [F_gusts_ends_s1]
theorem p_Lift {d : Canopy} (hs : Small d) : F_gusts_Lift n d = some (liftT d) := by
  simp only [F_gusts_Lift, p_gCheck hn hs, Option.bind_some, liftT]
  by_cases h : okD d = true
  · simp [h, p_lift hn (okD_iff.1 h)]
  · simp [h]
omit hn in
theorem ribs_len {d : Canopy} : (bestB d).ribs.length = d.Ribs.length ∧ (worstB d).ribs.length = d.Ribs.length := by simp [bestB, worstB]
theorem p_firstB {d : Canopy} (hd : DOk d) {g : Gust} (hg : GOk d.Ribs.length g) : F_gusts_blown_first n (bestB d) g = some ((enc d.Ribs.length (firstB d g) : Nat) : Int) := by
  have := p_first hn (best_ok hd) (g := g) (by rw [ribs_len.1]; exact hg)
  rw [ribs_len.1] at this
  exact this
theorem p_firstW {d : Canopy} (hd : DOk d) {g : Gust} (hg : GOk d.Ribs.length g) : F_gusts_blown_first n (worstB d) g = some ((enc d.Ribs.length (firstP d g) : Nat) : Int) := by
  have := p_first hn (worst_ok hd) (g := g) (by rw [ribs_len.2]; exact hg)
  rw [ribs_len.2] at this
  exact this
theorem p_Stands {d : Canopy} (hs : Small d) {l : List Gust} (hl : l.length ≤ 1000) : F_gusts_Stands n d l = some (standsT d l) := by
  simp only [F_gusts_Stands, p_gask hn hs hl, Option.bind_some, standsT]
  by_cases h : askG d l = 0
  · obtain ⟨hd, _, hg⟩ := askG_ok.1 h
    have c1 := p_ContainsGust hn l (fun a0_ => F_gusts_blown_stands_1 n a0_ (worstB d)) (fun g => !noneP d.Ribs.length (firstP d g)) (fun g hgm => by
      simp only [F_gusts_blown_stands_1, p_firstW hn hd (hg g hgm), Option.bind_some]
      rw [← enc_none]; rfl) hl
    have c2 := p_ContainsGust hn l (fun a0_ => F_gusts_blown_stands_1 n a0_ (bestB d)) (fun g => !noneP d.Ribs.length (firstB d g)) (fun g hgm => by
      simp only [F_gusts_blown_stands_1, p_firstB hn hd (hg g hgm), Option.bind_some]
      rw [← enc_none]; rfl) hl
    have e1 : ∀ (q : Gust → Bool), (l.any fun g => !q g) = !l.all q := fun q => by simp [List.any_eq_not_all_not]
    simp only [h, bne_self_eq_false, Bool.false_eq_true, if_false, if_true, p_ends hn hd, Option.bind_some, F_gusts_blown_stands, c1, c2, e1, Bool.not_not, standsI]
    cases (l.all fun g => noneP d.Ribs.length (firstP d g))
    · cases (l.all fun g => noneP d.Ribs.length (firstB d g)) <;> rfl
    · rfl
  · simp [h]
end
end Go.Proofs.Yteihdclpiekmaaa
end
section
namespace Go.Proofs.Yteihdclpiekmaaa
open Go Go.RowKit Go.Dec
set_option linter.unusedVariables false
theorem tdiv100_mono {a b : Int} (h0 : 0 ≤ a) (h : a ≤ b) : a.tdiv 100 ≤ b.tdiv 100 := by
  rw [Int.tdiv_eq_ediv_of_nonneg h0, Int.tdiv_eq_ediv_of_nonneg (by omega)]; omega
theorem load_mono {l l' : Int} (h0 : 0 ≤ l) (hl : l ≤ l') {sh : List Int} (hs : ∀ x ∈ sh, 0 ≤ x ∧ x ≤ 99) {g g' : Gust} (hat : g.At = g'.At) (hf0 : 0 ≤ g.Force) (hf : g.Force ≤ g'.Force) (h : 0 < sh.length) (i : Nat) : 0 ≤ loadS l sh g i ∧ loadS l sh g i ≤ loadS l' sh g' i := by
  have e : shareS sh g' i = shareS sh g i := by unfold shareS; rw [hat]
  have hsh := share_in hs (g := g) h i
  have h1 : 0 ≤ g.Force * l := Int.mul_nonneg hf0 h0
  have h2 : g.Force * l ≤ g'.Force * l' := Int.mul_le_mul hf hl h0 (by omega)
  have h3 : 0 ≤ g.Force * l * shareS sh g i := Int.mul_nonneg h1 hsh.1
  have h4 : g.Force * l * shareS sh g i ≤ g'.Force * l' * shareS sh g i := Int.mul_le_mul_of_nonneg_right h2 hsh.1
  unfold loadS
  rw [e]
  refine ⟨?_, tdiv100_mono h3 h4⟩
  rw [Int.tdiv_eq_ediv_of_nonneg h3]; omega
theorem firstP_eq {d : Canopy} {g : Gust} {i : Nat} : firstP d g i = (decide (i < d.Ribs.length) && decide (stW d i < ldW d g i)) := G_one
theorem stW_get {d : Canopy} {i : Nat} {s : Span} (h : d.Ribs[i]? = some s) : stW d i = s.Low := by simp [stW, h]
theorem stB_get {d : Canopy} {i : Nat} {s : Span} (h : d.Ribs[i]? = some s) : stB d i = s.High := by simp [stB, h]
theorem rib_get {d : Canopy} {i : Nat} (h : i < d.Ribs.length) : ∃ s, d.Ribs[i]? = some s ∧ s ∈ d.Ribs := ⟨d.Ribs[i], List.getElem?_eq_getElem h, List.getElem_mem h⟩
theorem st_in {d : Canopy} (hd : DOk d) {i : Nat} (h : i < d.Ribs.length) : 0 ≤ stW d i ∧ stW d i ≤ stB d i ∧ stB d i ≤ 99999 := by
  obtain ⟨s, h1, h2⟩ := rib_get h
  rw [stW_get h1, stB_get h1]
  exact hd.ribs s h2
theorem sh_pos {d : Canopy} (hd : DOk d) : 0 < d.Shares.length := by have := hd.s; have := hd.r; omega
section
variable {n : Nat} (hn : 100000000 ≤ n)
include hn
omit hn in
theorem enc_or {N : Nat} (hN : N ≤ 10) (p q : Nat → Bool) : bor .u16 ((enc N p : Nat) : Int) ((enc N q : Nat) : Int) = ((enc N fun i => p i || q i : Nat) : Int) := by
  rw [bor_nat (enc_16 hN p) (enc_16 hN q), Int.natCast_inj]
  refine enc_eq fun j => ?_
  rw [Nat.testBit_or, enc_bit, enc_bit]
  cases decide (j < N) <;> simp
theorem p_Weak {d : Canopy} (hs : Small d) {l : List Gust} (hl : l.length ≤ 1000) : F_gusts_Weak n d l = some (weakT d l) := by
  simp only [F_gusts_Weak, p_gask hn hs hl, Option.bind_some, weakT]
  by_cases h : askG d l = 0
  · obtain ⟨hd, _, hg⟩ := askG_ok.1 h
    simp only [h, bne_self_eq_false, Bool.false_eq_true, if_false, if_true, p_ends hn hd, Option.bind_some]
    have kk := loop_foldl (step := F_gusts_Weak_s1 n l (bestB d, worstB d)) l (fun i (b : Nat → Bool) => (((enc d.Ribs.length b : Nat) : Int), (i : Int))) (fun b g => fun i => b i || firstP d g i) (fun b => ((enc d.Ribs.length b : Nat) : Int)) (n := n) (fun _ => false) (fun i x b hx hi => ?_) (fun b => ?_) (by omega)
    · have h0 : enc d.Ribs.length (fun _ => false) = 0 := enc_zero.2 fun _ _ => rfl
      rw [h0] at kk
      simp only [show ((0 : Nat) : Int) = 0 from rfl] at kk
      rw [kk]
      have e : ∀ (l : List Gust) (b : Nat → Bool) (i : Nat), (l.foldl (fun b g => fun i => b i || firstP d g i) b) i = (b i || l.any fun g => firstP d g i) := by
        intro l
        induction l with
        | nil => simp
        | cons a l ih => intro b i; rw [List.foldl_cons, ih, List.any_cons, Bool.or_assoc]
      have e2 : l.foldl (fun b g => fun i => b i || firstP d g i) (fun _ => false) = weakP d l := by funext i; rw [e]; rfl
      simp only [Option.bind_some, e2, p_list hn hd.r.2]
    · simp only [F_gusts_Weak_s1, lt_nat, hi, decide_true, if_true, geti_nat, hx, Option.bind_some, p_firstW hn hd (hg _ (List.mem_of_getElem? hx)), enc_or hd.r.2, w64_nat (show i ≤ 4611686018427387904 by omega)]
    · simp [F_gusts_Weak_s1]
  · simp [h]
omit hn in
theorem p_within05 (n : Nat) (a b c : Int) : F_ref05_within n a b c = some (wi a b c) := rfl
omit hn in
theorem all_idx {α : Type} (l : List α) (p : α → Bool) (q : Nat → Bool) (h : ∀ i x, l[i]? = some x → q i = p x) : (List.range l.length).all q = l.all p := by
  rw [Bool.eq_iff_iff, List.all_eq_true, List.all_eq_true]
  constructor
  · intro h1 x hx
    obtain ⟨i, hi, rfl⟩ := List.getElem_of_mem hx
    rw [← h i _ (List.getElem?_eq_getElem hi)]
    exact h1 i (List.mem_range.2 hi)
  · intro h1 i hi
    have hi := List.mem_range.1 hi
    rw [h i _ (List.getElem?_eq_getElem hi)]
    exact h1 _ (List.getElem_mem hi)
omit hn in
theorem all_and {α : Type} (l : List α) (p q : α → Bool) : (l.all fun x => p x && q x) = (l.all p && l.all q) := by
  induction l with
  | nil => rfl
  | cons a l ih => simp only [List.all_cons, ih]; cases p a <;> cases q a <;> cases l.all p <;> cases l.all q <;> rfl
theorem p_Check05 {d : Canopy} (hs : Small d) : F_ref05_Check n d = some (if okD d = true then 0 else 50) := by
  have e3 : ((if okF d.Frame = true then (0 : Int) else 10) != 0) = !okF d.Frame := by cases okF d.Frame <;> rfl
  have e4 : ((d.Shares.length : Int) != (d.Ribs.length : Int)) = !((d.Shares.length : Int) == (d.Ribs.length : Int)) := rfl
  simp only [F_ref05_Check, p_Check01 hn hs.1, Option.bind_some, e3, e4, p_within05, or_br]
  have e5 : ((!okF d.Frame || !wi (d.Ribs.length : Int) 3 10) || !((d.Shares.length : Int) == (d.Ribs.length : Int))) = !(okF d.Frame && wi (d.Ribs.length : Int) 3 10 && ((d.Shares.length : Int) == (d.Ribs.length : Int))) := by simp only [Bool.not_and]
  rw [e5]
  unfold okD
  by_cases h : (okF d.Frame && wi (d.Ribs.length : Int) 3 10 && ((d.Shares.length : Int) == (d.Ribs.length : Int))) = true
  · have hsl : d.Shares.length = d.Ribs.length := by
      simp only [Bool.and_eq_true, beq_iff_eq] at h; omega
    have hr := hs.2.1
    simp only [h, Bool.not_true, Bool.false_eq_true, if_false, Bool.true_and]
    have kk := loop_all (step := F_ref05_Check_s1 n d) d.Ribs.length (fun i => okRib ((d.Ribs[i]?).getD ⟨0, 0⟩) && okSh ((d.Shares[i]?).getD 0)) (50 : Int) (n := n) (by omega) (fun i hi => ?_) ?_ (by omega)
    · rw [kk, all_and]
      rw [all_idx d.Ribs okRib (fun i => okRib ((d.Ribs[i]?).getD ⟨0, 0⟩)) (fun i x hx => by rw [hx]; rfl)]
      have := all_idx d.Shares okSh (fun i => okSh ((d.Shares[i]?).getD 0)) (fun i x hx => by rw [hx]; rfl)
      rw [hsl] at this
      rw [this]
      cases (d.Ribs.all okRib && d.Shares.all okSh) <;> rfl
    · have h1 : d.Ribs[i]? = some d.Ribs[i] := List.getElem?_eq_getElem hi
      have h2 : d.Shares[i]? = some (d.Shares[i]'(by omega)) := List.getElem?_eq_getElem (by omega)
      simp only [F_ref05_Check_s1, lt_nat, hi, decide_true, if_true, geti_nat, h1, h2, Option.bind_some, p_within05, or_br, Option.getD_some, w64_nat (show i ≤ 4611686018427387904 by omega)]
      have e6 : decide (99999 < d.Ribs[i].High) = !decide (d.Ribs[i].High ≤ 99999) := by rw [← decide_not]; congr 1; simp
      have e7 : ((!wi d.Ribs[i].Low 0 d.Ribs[i].High || decide (99999 < d.Ribs[i].High)) || !wi (d.Shares[i]'(by omega)) 0 99) = !(okRib d.Ribs[i] && okSh (d.Shares[i]'(by omega))) := by
        rw [e6]; simp only [okRib, okSh, Bool.not_and]
      rw [e7]
      cases (okRib d.Ribs[i] && okSh (d.Shares[i]'(by omega))) <;> rfl
    · simp [F_ref05_Check_s1]
  · simp only [Bool.not_eq_true] at h
    simp only [h, Bool.not_false, if_true, Bool.false_and, Bool.false_eq_true, if_false]
end
end Go.Proofs.Yteihdclpiekmaaa
end
section
namespace Go.Proofs.Yteihdclpiekmaaa
open Go Go.RowKit Go.Dec
set_option linter.unusedVariables false
def lst {α : Type} (N : Nat) (f : Nat → α) : List α := (List.range N).map f
def part {α : Type} (N i : Nat) (f g : Nat → α) : List α := lst N fun j => if j < i then f j else g j
section
variable {n : Nat} (hn : 100000000 ≤ n)
include hn
end
section
variable {n : Nat} (hn : 100000000 ≤ n)
include hn
end
end Go.Proofs.Yteihdclpiekmaaa
end
section
namespace Go.Proofs.Yteihdclpiekmaaa
open Go Go.RowKit Go.Dec
set_option linter.unusedVariables false
section
variable {n : Nat} (hn : 100000000 ≤ n)
include hn
theorem p_Copy05 {d : Canopy} (hs : Small d) : F_ref05_Copy n d = some d := by
  simp only [F_ref05_Copy, p_Copy01 hn hs.1, Option.bind_some, List.nil_append]
  rw [lim_ok (by have := hs.2.1; omega), lim_ok (by have := hs.2.2; omega)]
  rfl
omit hn in
theorem listS_len {N : Nat} (hN : N ≤ 10) (p : Nat → Bool) : (listS N p).length ≤ N := by
  unfold listS
  rw [List.length_map]
  exact Nat.le_trans (List.length_filter_le _ _) (by simp)
omit hn in
theorem listS_mem {N : Nat} {p : Nat → Bool} {j : Nat} : (listS N p).contains (j : Int) = (decide (j < N) && p j) := by
  rw [Bool.eq_iff_iff]
  simp only [List.contains_eq_mem, decide_eq_true_eq, Bool.and_eq_true, listS, List.mem_map, List.mem_filter, List.mem_range]
  constructor
  · rintro ⟨a, h, e⟩
    have : a = j := by omega
    subst this; exact h
  · intro h; exact ⟨j, h, rfl⟩
theorem p_Far (d : Canopy) : F_law05_Far n d = some true ∨ (F_law05_Far n d = some false ∧ Small d ∧ d.Frame.Sections.length ≤ 20 ∧ d.Ribs.length ≤ 40 ∧ d.Shares.length ≤ 40) := by
  have _hn := hn
  unfold F_law05_Far
  by_cases h1 : 20 < (d.Frame.Sections.length : Int)
  · simp [h1]
  · by_cases h2 : 40 < (d.Ribs.length : Int)
    · simp [h2]
    · by_cases h3 : 40 < (d.Shares.length : Int)
      · simp [h3]
      · right
        refine ⟨by simp [h1, h2, h3], ⟨by omega, by omega, by omega⟩, by omega, by omega, by omega⟩
end
def exD : Canopy := ⟨⟨[⟨⟨50, 52⟩, ⟨60, 60⟩, 0, ⟨1, 1⟩⟩, ⟨⟨40, 40⟩, ⟨45, 46⟩, 5, ⟨1, 2⟩⟩], 20, 100, ⟨1, 20⟩, 300, 351⟩, [⟨100, 110⟩, ⟨60, 60⟩, ⟨50, 55⟩, ⟨40, 40⟩, ⟨50, 50⟩, ⟨60, 60⟩], [10, 6, 3, 1, 3, 6]⟩
set_option maxRecDepth 1000000 in
theorem ex_lift : liftT exD = (⟨65, 76⟩, 0) := by kernel_rfl
end Go.Proofs.Yteihdclpiekmaaa
end
section
namespace Go.Proofs.Yteihdclpiekmaaa
open Go Go.RowKit Go.Dec
set_option linter.unusedVariables false
theorem ld_le {d : Canopy} (hd : DOk d) {g : Gust} (hf : 0 ≤ g.Force) (i : Nat) : 0 ≤ ldB d g i ∧ ldB d g i ≤ ldW d g i := by
  have := lift_in hd
  exact load_mono this.1 this.2.1 hd.sh rfl hf (Int.le_refl _) (sh_pos hd) i
theorem sure_may {d : Canopy} (hd : DOk d) {g : Gust} (hf : 0 ≤ g.Force) (k j : Nat) (hj : j < d.Ribs.length) (h : G (ldB d g) (stB d) d.Ribs.length k j = true) : G (ldW d g) (stW d) d.Ribs.length k j = true :=
  G_mono (by have := hd.r; omega) (fun i _ => ld_le hd hf i) (fun i hi => (st_in hd hi).2.1) k j hj h
theorem listS_get {N : Nat} {p : Nat → Bool} {i : Nat} {x : Int} (h : (listS N p)[i]? = some x) : ∃ j : Nat, x = j ∧ j < N ∧ p j = true := by
  obtain ⟨j, hj, rfl⟩ := List.mem_map.1 (List.mem_of_getElem? h)
  obtain ⟨h1, h2⟩ := List.mem_filter.1 hj
  exact ⟨j, rfl, List.mem_range.1 h1, h2⟩
theorem setx_mem {α : Type} {l : List α} {i : Nat} {y z : α} (h : z ∈ setx l (i : Int) y) : z = y ∨ z ∈ l := by
  unfold setx at h
  rcases List.mem_or_eq_of_mem_set h with h | h
  · exact .inr h
  · exact .inl h
theorem setx_get {α : Type} {l : List α} {i : Nat} {y : α} (h : i < l.length) (j : Nat) : (setx l (i : Int) y)[j]? = if j = i then some y else l[j]? := by
  unfold setx
  rw [Int.toNat_natCast, List.getElem?_set]
  by_cases hij : i = j
  · subst hij; simp [h]
  · rw [if_neg hij, if_neg (fun e => hij e.symm)]
/-- domes that differ in their ribs alone -/
structure Same (d o : Canopy) : Prop where
  f : o.Frame = d.Frame
  s : o.Shares = d.Shares
  n : o.Ribs.length = d.Ribs.length
theorem Same.lift {d o : Canopy} (h : Same d o) : liftS o = liftS d := by unfold liftS; rw [h.f]
theorem Same.ldB {d o : Canopy} (h : Same d o) (g : Gust) : ldB o g = ldB d g := by unfold Go.Proofs.Yteihdclpiekmaaa.ldB; rw [h.lift, h.s]
theorem Same.ldW {d o : Canopy} (h : Same d o) (g : Gust) : ldW o g = ldW d g := by unfold Go.Proofs.Yteihdclpiekmaaa.ldW; rw [h.lift, h.s]
/-- more strength and less load: fewer go -/
theorem less_sure {d o : Canopy} (hd : DOk d) (hs : Same d o) {g g' : Gust} (hat : g'.At = g.At) (hf0 : 0 ≤ g'.Force) (hf : g'.Force ≤ g.Force) (hb : ∀ j, j < d.Ribs.length → stB d j ≤ stB o j) {k j : Nat} (hj : j < d.Ribs.length) (h : G (ldB o g') (stB o) d.Ribs.length k j = true) : G (ldB d g) (stB d) d.Ribs.length k j = true := by
  rw [hs.ldB] at h
  have := lift_in hd
  exact G_mono (by have := hd.r; omega) (fun i _ => load_mono this.1 (Int.le_refl _) hd.sh hat hf0 hf (sh_pos hd) i) hb k j hj h
theorem less_may {d o : Canopy} (hd : DOk d) (hs : Same d o) {g g' : Gust} (hat : g'.At = g.At) (hf0 : 0 ≤ g'.Force) (hf : g'.Force ≤ g.Force) (hb : ∀ j, j < d.Ribs.length → stW d j ≤ stW o j) {k j : Nat} (hj : j < d.Ribs.length) (h : G (ldW o g') (stW o) d.Ribs.length k j = true) : G (ldW d g) (stW d) d.Ribs.length k j = true := by
  rw [hs.ldW] at h
  have := lift_in hd
  exact G_mono (by have := hd.r; omega) (fun i _ => load_mono (by omega) (Int.le_refl _) hd.sh hat hf0 hf (sh_pos hd) i) hb k j hj h
theorem noneP_mono {N : Nat} {p q : Nat → Bool} (h : ∀ j, j < N → p j = true → q j = true) (hq : noneP N q = true) : noneP N p = true := noneP_iff.2 fun j hj => by
  cases hp : p j
  · rfl
  · have := noneP_iff.1 hq j hj
    rw [h j hj hp] at this; simp at this
theorem stands_one {d : Canopy} {l : List Gust} : standsI d l = 1 ↔ ∀ g ∈ l, noneP d.Ribs.length (firstP d g) = true := by
  unfold standsI
  rw [← List.all_eq_true]
  split
  · rename_i h; exact ⟨fun _ => h, fun _ => rfl⟩
  · rename_i h
    split <;> exact ⟨fun h2 => by simp at h2, fun h2 => absurd h2 h⟩
theorem firstB_P {d : Canopy} (hd : DOk d) {g : Gust} (hf : 0 ≤ g.Force) {j : Nat} (hj : j < d.Ribs.length) (h : firstB d g j = true) : firstP d g j = true := sure_may hd hf 1 j hj h
theorem stands_two {d : Canopy} (hd : DOk d) {l : List Gust} (hl : ∀ g ∈ l, 0 ≤ g.Force) : standsI d l = 2 ↔ ¬ ∀ g ∈ l, noneP d.Ribs.length (firstB d g) = true := by
  unfold standsI
  rw [← List.all_eq_true]
  split
  · rename_i h
    refine ⟨fun h2 => by simp at h2, fun h2 => absurd ?_ h2⟩
    rw [List.all_eq_true] at h ⊢
    exact fun g hg => noneP_mono (fun j hj => firstB_P hd (hl g hg) hj) (h g hg)
  · split
    · rename_i h; exact ⟨fun h2 => by simp at h2, fun h2 => absurd h h2⟩
    · rename_i h; exact ⟨fun _ => h, fun _ => rfl⟩
end Go.Proofs.Yteihdclpiekmaaa
end
section
namespace Go.Dec
def expand (m : Mp) : List (List Int) := m.flatMap fun p => List.replicate p.2.toNat p.1
/-- the map counts the list's members -/
structure RM (L : List (List Int)) (m : Mp) : Prop where
  srt : Srt m
  pos : ∀ p ∈ m, 0 < p.2
  perm : (expand m).Perm L
theorem mget_cons {p : List Int × Int} {r : Mp} {k : List Int} : mget (p :: r) k = if p.1 = k then p.2 else mget r k := by
  unfold mget
  rw [List.find?_cons]
  by_cases h : p.1 = k
  · have : (p.1 == k) = true := by simpa using h
    rw [this, if_pos h]
  · have : (p.1 == k) = false := by simpa using h
    rw [this, if_neg h]
theorem mget_nil {k : List Int} : mget [] k = 0 := rfl
theorem expand_cons (p : List Int × Int) (r : Mp) : expand (p :: r) = List.replicate p.2.toNat p.1 ++ expand r := by simp [expand]
theorem mget_nonneg {m : Mp} (hp : ∀ p ∈ m, 0 < p.2) (k : List Int) : 0 ≤ mget m k := by
  induction m with
  | nil => simp [mget_nil]
  | cons p r ih =>
    rw [mget_cons]
    split
    · have := hp p (List.mem_cons_self ..); omega
    · exact ih fun q hq => hp q (List.mem_cons_of_mem _ hq)
theorem expand_mput {k : List Int} {c : Int} (hc : 0 < c) : ∀ {m : Mp}, Srt m → (∀ p ∈ m, 0 < p.2) → (expand (mput m k (mget m k + c))).Perm (expand m ++ List.replicate c.toNat k)
  | [], _, _ => by simp [mput, mget_nil, expand]
  | p :: r, hs, hp => by
    obtain ⟨h1, h2⟩ := List.pairwise_cons.1 hs
    have hp' : ∀ q ∈ r, 0 < q.2 := fun q hq => hp q (List.mem_cons_of_mem _ hq)
    have hpp := hp p (List.mem_cons_self ..)
    rw [mget_cons]
    unfold mput
    by_cases e : p.1 = k
    · rw [if_pos e, if_pos (by simpa using e), expand_cons, expand_cons]
      simp only
      have e1 : (p.2 + c).toNat = p.2.toNat + c.toNat := by omega
      rw [e1, ← List.replicate_append_replicate, e]
      rw [List.append_assoc, List.append_assoc]
      exact List.Perm.append_left _ List.perm_append_comm
    · rw [if_neg e, if_neg (by simpa using e)]
      by_cases hl : klt k p.1 = true
      · rw [if_pos hl]
        have h0 : mget r k = 0 := mget_of_not fun q hq e2 => by
          have := klt_trans hl (h1 q hq)
          rw [e2, klt_irrefl] at this
          cases this
        rw [h0, expand_cons, Int.zero_add]
        exact List.perm_append_comm
      · rw [if_neg hl, expand_cons, expand_cons, List.append_assoc]
        exact List.Perm.append_left _ (expand_mput hc h2 hp')
theorem RM.nil : RM [] [] := ⟨List.Pairwise.nil, by simp, by simp [expand]⟩
theorem RM.perm' {L L' : List (List Int)} {m : Mp} (h : RM L m) (hp : L.Perm L') : RM L' m := ⟨h.srt, h.pos, h.perm.trans hp⟩
theorem RM.add {L : List (List Int)} {m : Mp} (h : RM L m) (k : List Int) {c : Int} (hc : 0 < c) : RM (L ++ List.replicate c.toNat k) (mput m k (mget m k + c)) := by
  refine ⟨srt_mput h.srt, fun p hp => ?_, (expand_mput hc h.srt h.pos).trans (h.perm.append_right _)⟩
  rcases (mem_mput h.srt).1 hp with rfl | ⟨hp, _⟩
  · have := mget_nonneg h.pos k; simp only; omega
  · exact h.pos p hp
theorem mget_count {k : List Int} : ∀ {m : Mp}, Srt m → (∀ p ∈ m, 0 < p.2) → mget m k = ((expand m).count k : Nat)
  | [], _, _ => by simp [mget_nil, expand]
  | p :: r, hs, hp => by
    obtain ⟨h1, h2⟩ := List.pairwise_cons.1 hs
    have hp' : ∀ q ∈ r, 0 < q.2 := fun q hq => hp q (List.mem_cons_of_mem _ hq)
    have hpp := hp p (List.mem_cons_self ..)
    rw [mget_cons, expand_cons, List.count_append, List.count_replicate]
    have ih := mget_count (k := k) h2 hp'
    by_cases e : p.1 = k
    · rw [if_pos e, if_pos (by simpa using e)]
      have h0 : mget r k = 0 := mget_of_not fun q hq e2 => by
        have := h1 q hq
        rw [e2, ← e, klt_irrefl] at this
        cases this
      omega
    · rw [if_neg e, if_neg (by simpa using e)]
      omega
theorem RM.get {L : List (List Int)} {m : Mp} (h : RM L m) (k : List Int) : mget m k = (L.count k : Nat) := by
  rw [mget_count h.srt h.pos, h.perm.count_eq]
theorem RM.mem {L : List (List Int)} {m : Mp} (h : RM L m) {p : List Int × Int} : p ∈ m ↔ p.2 = (L.count p.1 : Nat) ∧ p.1 ∈ L := by
  constructor
  · intro hp
    have h1 := mget_of_mem h.srt (k := p.1) (v := p.2) hp
    rw [h.get] at h1
    refine ⟨h1.symm, ?_⟩
    have := h.pos p hp
    exact List.count_pos_iff.1 (by omega)
  · rintro ⟨h1, h2⟩
    have h3 : 0 < L.count p.1 := List.count_pos_iff.2 h2
    have h4 := h.get p.1
    unfold mget at h4
    cases hf : m.find? (fun q => q.1 == p.1) with
    | none => rw [hf] at h4; simp only at h4; omega
    | some q =>
      rw [hf] at h4
      simp only at h4
      have h5 := List.find?_some hf
      have e : q = p := by
        have : q.1 = p.1 := by simpa using h5
        exact Prod.ext this (by omega)
      rw [← e]
      exact List.mem_of_find?_eq_some hf
theorem RM.uniq {L : List (List Int)} {m m' : Mp} (h : RM L m) (h' : RM L m') : m = m' := srt_ext h.srt h'.srt fun p => by rw [h.mem, h'.mem]
theorem RM.key {L : List (List Int)} {m : Mp} (h : RM L m) {x : List Int} : (∃ c, (x, c) ∈ m) ↔ x ∈ L :=
  ⟨fun ⟨_, hc⟩ => (h.mem.1 hc).2, fun hx => ⟨(L.count x : Nat), h.mem.2 ⟨rfl, hx⟩⟩⟩
theorem expand_length : ∀ {m : Mp}, (∀ p ∈ m, 0 < p.2) → ((expand m).length : Int) = (m.map (·.2)).sum
  | [], _ => by simp [expand]
  | p :: r, hp => by
    have ih := expand_length (m := r) fun q hq => hp q (List.mem_cons_of_mem _ hq)
    have hpp := hp p (List.mem_cons_self ..)
    rw [expand_cons, List.length_append, List.length_replicate, List.map_cons, List.sum_cons]
    omega
theorem RM.total {L : List (List Int)} {m : Mp} (h : RM L m) : (m.map (·.2)).sum = (L.length : Nat) := by
  rw [← expand_length h.pos, h.perm.length_eq]
theorem expand_filter (q : List Int → Bool) : ∀ (m : Mp), expand (m.filter fun p => q p.1) = (expand m).filter q
  | [] => by simp [expand]
  | p :: r => by
    rw [expand_cons, List.filter_append]
    cases hq : q p.1 with
    | true => rw [List.filter_cons_of_pos (p := fun p : List Int × Int => q p.1) hq, expand_cons, expand_filter q r, List.filter_replicate_of_pos hq]
    | false => rw [List.filter_cons_of_neg (p := fun p : List Int × Int => q p.1) (by simp [hq]), expand_filter q r, List.filter_replicate_of_neg (by simp [hq]), List.nil_append]
theorem RM.filter {L : List (List Int)} {m : Mp} (h : RM L m) (q : List Int → Bool) : RM (L.filter q) (m.filter fun p => q p.1) :=
  ⟨h.srt.filter _, fun p hp => h.pos p (List.mem_filter.1 hp).1, by rw [expand_filter]; exact h.perm.filter _⟩
def tally (L : List (List Int)) : Mp := L.foldl (fun m k => mput m k (mget m k + 1)) []
theorem tally_ok (L : List (List Int)) : RM L (tally L) := by
  have key : ∀ (L L0 : List (List Int)) (m : Mp), RM L0 m → RM (L0 ++ L) (L.foldl (fun m k => mput m k (mget m k + 1)) m) := by
    intro L
    induction L with
    | nil => intro L0 m h; simpa using h
    | cons k L ih =>
      intro L0 m h
      rw [List.foldl_cons]
      have := ih (L0 ++ [k]) _ (by simpa using h.add k (c := 1) (by omega))
      simpa using this
  have := key L [] [] RM.nil
  rw [List.nil_append] at this
  exact this
theorem RM.eq {L : List (List Int)} {m : Mp} (h : RM L m) : m = tally L := h.uniq (tally_ok L)
theorem RM.len0 {L : List (List Int)} {m : Mp} (h : RM L m) : m = [] ↔ L = [] := by
  constructor
  · rintro rfl
    have := h.perm.length_eq
    exact List.eq_nil_of_length_eq_zero (by simpa [expand] using this.symm)
  · rintro rfl
    cases m with
    | nil => rfl
    | cons p r => have := (h.mem (p := p)).1 (List.mem_cons_self ..); simp at this
theorem foldP_some {S : Type} {step : S → List Int × Int → Option S} (g : S → List Int × Int → S) {m : Mp} : ∀ (l : Mp) (s : S), (∀ x ∈ l, x ∈ m) → (∀ s x, x ∈ m → step s x = some (g s x)) → foldP step s l = some (l.foldl g s)
  | [], _, _, _ => rfl
  | x :: l, s, hl, h => by
    rw [foldP, h s x (hl x (List.mem_cons_self ..))]
    exact foldP_some g l _ (fun y hy => hl y (List.mem_cons_of_mem _ hy)) h
theorem foldl_perm {α β : Type} {g : β → α → β} (hg : ∀ b x y, g (g b x) y = g (g b y) x) {l m : List α} (h : l.Perm m) : ∀ b, l.foldl g b = m.foldl g b := by
  induction h with
  | nil => intro b; rfl
  | cons x _ ih => intro b; exact ih _
  | swap x y l => intro b; simp only [List.foldl_cons]; rw [hg]
  | trans _ _ ih1 ih2 => intro b; rw [ih1, ih2]
theorem permO_comm {S : Type} {step : S → List Int × Int → Option S} (g : S → List Int × Int → S) (hg : ∀ s x y, g (g s x) y = g (g s y) x) {m : Mp} (s : S) (h : ∀ s x, x ∈ m → step s x = some (g s x)) : permO step s m = some (m.foldl g s) :=
  permO_of fun l hl => by
    rw [foldP_some g l s (fun x hx => hl.mem_iff.1 hx) h]
    rw [foldl_perm hg hl s]
end Go.Dec
end
section
namespace Go.Proofs.Yteihdclpiekmaaa
open Go Go.RowKit Go.Dec
set_option linter.unusedVariables false
section
variable {n : Nat} (hn : 100000000 ≤ n)
include hn
theorem p_ContainsBlow (s : List Blow) (f : Blow → Option Bool) (p : Blow → Bool) (hf : ∀ x, x ∈ s → f x = some (p x)) (hs : s.length ≤ 1000) : F_slices_ContainsFunc___api_Blow_api_Blow_ n s f = some (s.any p) := by
  have : ∃ k, F_slices_IndexFunc___api_Blow_api_Blow_ n s f = some k ∧ decide (0 ≤ k) = s.any p := by
    by_cases h : s.any p = true
    · have : ∃ i : Nat, ∃ x, s[i]? = some x ∧ p x = true ∧ ∀ (j : Nat) y, j < i → s[j]? = some y → p y = false := first_of h
      obtain ⟨i, x, h1, h2, h3⟩ := this
      have hil := (List.getElem?_eq_some_iff.1 h1).1
      refine ⟨i, ?_, by rw [h]; simp⟩
      have := loop_run (step := F_slices_IndexFunc___api_Blow_api_Blow__s1 n s f) (fun j => (j : Int)) (r := .inl (i : Int)) i 0 n (fun j _ hj => ?_) ?_ (by omega)
      · unfold F_slices_IndexFunc___api_Blow_api_Blow_
        simp only [Int.natCast_zero] at this
        rw [this]; rfl
      · have hj' : j < s.length := by omega
        have e : s[j]? = some s[j] := List.getElem?_eq_getElem hj'
        simp only [F_slices_IndexFunc___api_Blow_api_Blow__s1, geti_nat, e, Option.bind_some, hf _ (List.getElem_mem hj'), h3 j _ (by omega) e, lt_nat, hj', decide_true, if_true, Bool.false_eq_true, if_false, w64_nat (show j ≤ 4611686018427387904 by omega)]
      · simp only [Nat.zero_add, F_slices_IndexFunc___api_Blow_api_Blow__s1, geti_nat, h1, Option.bind_some, hf _ (List.mem_of_getElem? h1), h2, lt_nat, hil, decide_true, if_true]
    · have hno : ∀ x ∈ s, p x = false := fun x hx => by
        cases hp : p x with
        | false => rfl
        | true => exact absurd (List.any_eq_true.2 ⟨x, hx, hp⟩) h
      refine ⟨-1, ?_, by simp only [Bool.not_eq_true] at h; rw [h]; rfl⟩
      have := loop_all_l (step := F_slices_IndexFunc___api_Blow_api_Blow__s1 n s f) s (fun _ => true) (0 : Int) (n := n) (by omega) (fun i x hx hi => ?_) ?_ (by omega)
      · unfold F_slices_IndexFunc___api_Blow_api_Blow_; rw [this, show (s.all fun _ => true) = true by simp]; rfl
      · simp only [F_slices_IndexFunc___api_Blow_api_Blow__s1, geti_nat, hx, Option.bind_some, hf _ (List.mem_of_getElem? hx), hno _ (List.mem_of_getElem? hx), lt_nat, hi, decide_true, if_true, cond_true, Bool.false_eq_true, if_false, w64_nat (show i ≤ 4611686018427387904 by omega)]
      · simp [F_slices_IndexFunc___api_Blow_api_Blow__s1]
  obtain ⟨k, h1, h2⟩ := this
  simp only [F_slices_ContainsFunc___api_Blow_api_Blow_, h1, Option.bind_some, h2]
theorem p_ContainsMeter (s : List Meter) (f : Meter → Option Bool) (p : Meter → Bool) (hf : ∀ x, x ∈ s → f x = some (p x)) (hs : s.length ≤ 1000) : F_slices_ContainsFunc___api_Meter_api_Meter_ n s f = some (s.any p) := by
  have : ∃ k, F_slices_IndexFunc___api_Meter_api_Meter_ n s f = some k ∧ decide (0 ≤ k) = s.any p := by
    by_cases h : s.any p = true
    · have : ∃ i : Nat, ∃ x, s[i]? = some x ∧ p x = true ∧ ∀ (j : Nat) y, j < i → s[j]? = some y → p y = false := first_of h
      obtain ⟨i, x, h1, h2, h3⟩ := this
      have hil := (List.getElem?_eq_some_iff.1 h1).1
      refine ⟨i, ?_, by rw [h]; simp⟩
      have := loop_run (step := F_slices_IndexFunc___api_Meter_api_Meter__s1 n s f) (fun j => (j : Int)) (r := .inl (i : Int)) i 0 n (fun j _ hj => ?_) ?_ (by omega)
      · unfold F_slices_IndexFunc___api_Meter_api_Meter_
        simp only [Int.natCast_zero] at this
        rw [this]; rfl
      · have hj' : j < s.length := by omega
        have e : s[j]? = some s[j] := List.getElem?_eq_getElem hj'
        simp only [F_slices_IndexFunc___api_Meter_api_Meter__s1, geti_nat, e, Option.bind_some, hf _ (List.getElem_mem hj'), h3 j _ (by omega) e, lt_nat, hj', decide_true, if_true, Bool.false_eq_true, if_false, w64_nat (show j ≤ 4611686018427387904 by omega)]
      · simp only [Nat.zero_add, F_slices_IndexFunc___api_Meter_api_Meter__s1, geti_nat, h1, Option.bind_some, hf _ (List.mem_of_getElem? h1), h2, lt_nat, hil, decide_true, if_true]
    · have hno : ∀ x ∈ s, p x = false := fun x hx => by
        cases hp : p x with
        | false => rfl
        | true => exact absurd (List.any_eq_true.2 ⟨x, hx, hp⟩) h
      refine ⟨-1, ?_, by simp only [Bool.not_eq_true] at h; rw [h]; rfl⟩
      have := loop_all_l (step := F_slices_IndexFunc___api_Meter_api_Meter__s1 n s f) s (fun _ => true) (0 : Int) (n := n) (by omega) (fun i x hx hi => ?_) ?_ (by omega)
      · unfold F_slices_IndexFunc___api_Meter_api_Meter_; rw [this, show (s.all fun _ => true) = true by simp]; rfl
      · simp only [F_slices_IndexFunc___api_Meter_api_Meter__s1, geti_nat, hx, Option.bind_some, hf _ (List.mem_of_getElem? hx), hno _ (List.mem_of_getElem? hx), lt_nat, hi, decide_true, if_true, cond_true, Bool.false_eq_true, if_false, w64_nat (show i ≤ 4611686018427387904 by omega)]
      · simp [F_slices_IndexFunc___api_Meter_api_Meter__s1]
  obtain ⟨k, h1, h2⟩ := this
  simp only [F_slices_ContainsFunc___api_Meter_api_Meter_, h1, Option.bind_some, h2]
end
def okBlow (d : Canopy) (b : Blow) : Bool := wi b.At 0 ((d.Ribs.length : Int) - 1) && wi b.Force.Low 0 b.Force.High && decide (b.Force.High ≤ 99) && decide (w64 (b.Force.High - b.Force.Low) ≤ 9)
def okMeter (m : Meter) : Bool := wi m.Limit 0 99 && wi m.Count 0 8
def okR (r : Run) : Bool := okD r.Canopy && decide (r.Blows.length ≤ 8) && decide (r.Meters.length ≤ 5) && r.Blows.all (okBlow r.Canopy) && r.Meters.all okMeter && wi r.Wrong 0 5
def checkR (r : Run) : Int := if okR r = true then 0 else 130
structure BlOk (d : Canopy) (b : Blow) : Prop where
  at_ : 0 ≤ b.At ∧ b.At < d.Ribs.length
  lo : 0 ≤ b.Force.Low
  le : b.Force.Low ≤ b.Force.High
  hi : b.Force.High ≤ 99
  gap : b.Force.High - b.Force.Low ≤ 9
structure ROk (r : Run) : Prop where
  d : DOk r.Canopy
  nb : r.Blows.length ≤ 8
  nm : r.Meters.length ≤ 5
  b : ∀ b ∈ r.Blows, BlOk r.Canopy b
  m : ∀ m ∈ r.Meters, (0 ≤ m.Limit ∧ m.Limit ≤ 99) ∧ 0 ≤ m.Count ∧ m.Count ≤ 8
  w : 0 ≤ r.Wrong ∧ r.Wrong ≤ 5
theorem okBlow_iff {d : Canopy} {b : Blow} : okBlow d b = true ↔ BlOk d b := by
  simp only [okBlow, Bool.and_eq_true, wi_t, decide_eq_true_eq]
  constructor
  · rintro ⟨⟨⟨h1, h2⟩, h3⟩, h4⟩
    rw [w64_id (by omega) (by omega)] at h4
    exact ⟨by omega, by omega, by omega, h3, h4⟩
  · rintro ⟨h1, h2, h3, h4, h5⟩
    rw [w64_id (by omega) (by omega)]
    exact ⟨⟨⟨by omega, by omega⟩, h4⟩, h5⟩
theorem okR_iff {r : Run} : okR r = true ↔ ROk r := by
  simp only [okR, Bool.and_eq_true, okD_iff, wi_t, List.all_eq_true, okBlow_iff, okMeter, decide_eq_true_eq]
  constructor
  · rintro ⟨⟨⟨⟨⟨h1, h2⟩, h3⟩, h4⟩, h5⟩, h6⟩
    exact ⟨h1, h2, h3, h4, h5, h6⟩
  · rintro ⟨h1, h2, h3, h4, h5, h6⟩
    exact ⟨⟨⟨⟨⟨h1, h2⟩, h3⟩, h4⟩, h5⟩, h6⟩
theorem checkR_ok {r : Run} : checkR r = 0 ↔ ROk r := by
  unfold checkR
  rw [← okR_iff]
  by_cases h : okR r = true <;> simp [h]
def SmallR (r : Run) : Prop := Small r.Canopy ∧ r.Blows.length ≤ 1000 ∧ r.Meters.length ≤ 1000
theorem ROk.small {r : Run} (h : ROk r) : SmallR r := ⟨h.d.small, by have := h.nb; omega, by have := h.nm; omega⟩
section
variable {n : Nat} (hn : 100000000 ≤ n)
include hn
omit hn in
theorem p_cwithin (n : Nat) (a b c : Int) : F_counts_within n a b c = some (wi a b c) := rfl
theorem p_CheckC {r : Run} (hs : SmallR r) : F_counts_Check n r = some (checkR r) := by
  have c1 := p_ContainsBlow hn r.Blows (fun a0_ => F_counts_Check_1 n a0_ r) (fun b => !okBlow r.Canopy b) (fun b _ => by
    simp only [F_counts_Check_1, p_cwithin, Option.bind_some, or_br, okBlow, Bool.not_and]
    rw [w64_id (by have := hs.1.2.1; omega) (by have := hs.1.2.1; omega)]
    have e1 : decide (99 < b.Force.High) = !decide (b.Force.High ≤ 99) := by rw [← decide_not]; congr 1; simp
    have e2 : decide (9 < w64 (b.Force.High - b.Force.Low)) = !decide (w64 (b.Force.High - b.Force.Low) ≤ 9) := by rw [← decide_not]; congr 1; simp
    rw [e1, e2]) hs.2.1
  have c2 := p_ContainsMeter hn r.Meters (fun a0_ => F_counts_Check_2 n a0_) (fun m => !okMeter m) (fun m _ => by
    simp only [F_counts_Check_2, p_cwithin, Option.bind_some, or_br, okMeter, Bool.not_and]) hs.2.2
  have e1 : (r.Blows.any fun b => !okBlow r.Canopy b) = !r.Blows.all (okBlow r.Canopy) := by simp [List.any_eq_not_all_not]
  have e2 : (r.Meters.any fun m => !okMeter m) = !r.Meters.all okMeter := by simp [List.any_eq_not_all_not]
  have e3 : ((if okD r.Canopy = true then (0 : Int) else 50) != 0) = !okD r.Canopy := by cases okD r.Canopy <;> rfl
  have e4 : decide (8 < (r.Blows.length : Int)) = !decide (r.Blows.length ≤ 8) := by rw [← decide_not]; congr 1; simp; omega
  have e5 : decide (5 < (r.Meters.length : Int)) = !decide (r.Meters.length ≤ 5) := by rw [← decide_not]; congr 1; simp; omega
  simp only [F_counts_Check, p_gCheck hn hs.1, Option.bind_some, e3, e4, e5, c1, c2, e1, e2, p_cwithin, or_br]
  have e : (((((!okD r.Canopy || !decide (r.Blows.length ≤ 8)) || !decide (r.Meters.length ≤ 5)) || !r.Blows.all (okBlow r.Canopy)) || !r.Meters.all okMeter) || !wi r.Wrong 0 5) = !okR r := by
    simp only [okR, Bool.not_and]
  rw [e, checkR]
  cases okR r <;> rfl
theorem p_IsRib05 (d : Canopy) (i : Int) (hs : d.Ribs.length ≤ 1000) : F_ref05_IsRib n d i = some (wi i 0 ((d.Ribs.length : Int) - 1)) := by
  have _hn := hn
  simp only [F_ref05_IsRib, p_within05, Option.bind_some]
  rw [w64_id (by omega) (by omega)]
omit hn in
theorem p_within13 (n : Nat) (a b c : Int) : F_ref13_within n a b c = some (wi a b c) := rfl
theorem p_Check13 {r : Run} (hs : SmallR r) : F_ref13_Check n r = some (checkR r) := by
  have e3 : ((if okD r.Canopy = true then (0 : Int) else 50) != 0) = !okD r.Canopy := by cases okD r.Canopy <;> rfl
  have e4 : decide (8 < (r.Blows.length : Int)) = !decide (r.Blows.length ≤ 8) := by rw [← decide_not]; congr 1; simp; omega
  have e5 : decide (5 < (r.Meters.length : Int)) = !decide (r.Meters.length ≤ 5) := by rw [← decide_not]; congr 1; simp; omega
  have l1 := loop_all_l (step := F_ref13_Check_s1 n r) r.Blows (okBlow r.Canopy) (130 : Int) (n := n) (by have := hs.2.1; omega) (fun i x hx hi => by
    simp only [F_ref13_Check_s1, lt_nat, hi, decide_true, if_true, geti_nat, hx, Option.bind_some, p_IsRib05 hn _ _ hs.1.2.1, p_within13, or_br]
    have e6 : decide (99 < x.Force.High) = !decide (x.Force.High ≤ 99) := by rw [← decide_not]; congr 1; simp
    have e7 : decide (9 < w64 (x.Force.High - x.Force.Low)) = !decide (w64 (x.Force.High - x.Force.Low) ≤ 9) := by rw [← decide_not]; congr 1; simp
    rw [e6, e7, w64_nat (show i ≤ 4611686018427387904 by have := hs.2.1; omega)]
    have e : (((!wi x.At 0 ((r.Canopy.Ribs.length : Int) - 1) || !wi x.Force.Low 0 x.Force.High) || !decide (x.Force.High ≤ 99)) || !decide (w64 (x.Force.High - x.Force.Low) ≤ 9)) = !okBlow r.Canopy x := by simp only [okBlow, Bool.not_and]
    rw [e]
    cases okBlow r.Canopy x <;> rfl) (by simp [F_ref13_Check_s1]) (by have := hs.2.1; omega)
  have l2 := loop_all_l (step := F_ref13_Check_s2 n r) r.Meters okMeter (130 : Int) (n := n) (by have := hs.2.2; omega) (fun i x hx hi => by
    simp only [F_ref13_Check_s2, lt_nat, hi, decide_true, if_true, geti_nat, hx, Option.bind_some, p_within13, or_br]
    rw [w64_nat (show i ≤ 4611686018427387904 by have := hs.2.2; omega)]
    have e : (!wi x.Limit 0 99 || !wi x.Count 0 8) = !okMeter x := by simp only [okMeter, Bool.not_and]
    rw [e]
    cases okMeter x <;> rfl) (by simp [F_ref13_Check_s2]) (by have := hs.2.2; omega)
  simp only [F_ref13_Check, p_Check05 hn hs.1, Option.bind_some, e3, e4, e5, p_within13, or_br, l1, l2]
  unfold checkR okR
  cases okD r.Canopy <;> cases decide (r.Blows.length ≤ 8) <;> cases decide (r.Meters.length ≤ 5) <;> cases r.Blows.all (okBlow r.Canopy) <;> cases r.Meters.all okMeter <;> cases wi r.Wrong 0 5 <;> rfl
end
/-- the forces of some blows, one for each -/
def casesS : List Blow → List (List Int)
  | [] => [[]]
  | b :: bl => (span b.Force.Low b.Force.High).flatMap fun f => (casesS bl).map fun c => f :: c
theorem casesS_len : ∀ {bl : List Blow} {c : List Int}, c ∈ casesS bl → c.length = bl.length
  | [], c, h => by simp [casesS] at h; subst h; rfl
  | b :: bl, c, h => by
    simp only [casesS, List.mem_flatMap, List.mem_map] at h
    obtain ⟨f, _, c', h2, rfl⟩ := h
    simp [casesS_len h2]
/-- does a meter count a force? -/
def mtr (ms : List Meter) (f : Int) (j : Nat) : Int := match ms[j]? with | some m => if m.Limit ≤ f then 1 else 0 | none => 0
theorem mtr_some {ms : List Meter} {f : Int} {j : Nat} {m : Meter} (h : ms[j]? = some m) : mtr ms f j = if m.Limit ≤ f then 1 else 0 := by simp [mtr, h]
theorem mtr_none {ms : List Meter} {f : Int} {j : Nat} (h : ms.length ≤ j) : mtr ms f j = 0 := by simp [mtr, List.getElem?_eq_none h]
theorem mtr_in (ms : List Meter) (f : Int) (j : Nat) : mtr ms f j = 0 ∨ mtr ms f j = 1 := by
  unfold mtr
  cases ms[j]? with
  | none => exact .inl rfl
  | some m => simp only; split <;> simp
/-- one more force to all readings -/
def addS (ms : List Meter) (a : Blow → Int → Bool) (x : List Int) (b : Blow) (f : Int) : List Int :=
  (List.range 6).map fun j => x.getD j 0 + (if j = 5 then (if a b f = true then 1 else 0) else mtr ms f j)
/-- all readings behind some blows -/
def rdsF (ms : List Meter) (a : Blow → Int → Bool) (bl : List Blow) (L : List (List Int)) : List (List Int) :=
  bl.foldl (fun L b => L.flatMap fun x => (span b.Force.Low b.Force.High).map fun f => addS ms a x b f) L
def zeroX : List Int := [0, 0, 0, 0, 0, 0]
/-- what a case is read as -/
def readS (ms : List Meter) (a : Blow → Int → Bool) : List Blow → List Int → List Int → List Int
  | b :: bl, f :: c, x => readS ms a bl c (addS ms a x b f)
  | _, _, x => x
theorem rdsF_cases (ms : List Meter) (a : Blow → Int → Bool) : ∀ (bl : List Blow) (L : List (List Int)), rdsF ms a bl L = L.flatMap fun x => (casesS bl).map fun c => readS ms a bl c x
  | [], L => by simp [rdsF, casesS, readS]
  | b :: bl, L => by
    show rdsF ms a bl (L.flatMap fun x => (span b.Force.Low b.Force.High).map fun f => addS ms a x b f) = _
    rw [rdsF_cases ms a bl, List.flatMap_assoc]
    congr 1
    funext x
    rw [List.flatMap_map, casesS, List.map_flatMap]
    congr 1
    funext f
    rw [List.map_map]
    rfl
end Go.Proofs.Yteihdclpiekmaaa
end
section
namespace Go.Proofs.Yteihdclpiekmaaa
open Go Go.RowKit Go.Dec
set_option linter.unusedVariables false
theorem flatMap_two {α β : Type} (f g : α → List β) : ∀ l : List α, (l.flatMap fun x => f x ++ g x).Perm (l.flatMap f ++ l.flatMap g)
  | [] => by simp
  | a :: l => by
    simp only [List.flatMap_cons]
    have ih := flatMap_two f g l
    have h1 : (f a ++ g a ++ l.flatMap fun x => f x ++ g x).Perm (f a ++ g a ++ (l.flatMap f ++ l.flatMap g)) := ih.append_left _
    refine h1.trans ?_
    rw [List.append_assoc, List.append_assoc]
    refine List.Perm.append_left _ ?_
    rw [← List.append_assoc, ← List.append_assoc]
    exact List.Perm.append_right _ List.perm_append_comm
theorem flatMap_rep {α β : Type} (g : α → β → List Int) (x : α) (c : Nat) : ∀ S : List β, (S.flatMap fun f => List.replicate c (g x f)).Perm ((List.replicate c x).flatMap fun x => S.map (g x))
  | [] => by
    have : ∀ c : Nat, ((List.replicate c x).flatMap fun x => ([] : List (List Int))) = [] := fun c => by induction c <;> simp_all
    simp
  | f :: S => by
    simp only [List.flatMap_cons, List.map_cons]
    have h1 := flatMap_two (fun x => [g x f]) (fun x => S.map (g x)) (List.replicate c x)
    have e : ∀ c : Nat, ((List.replicate c x).flatMap fun x => [g x f]) = List.replicate c (g x f) := fun c => by
      induction c with
      | zero => rfl
      | succ c ih => rw [List.replicate_succ, List.flatMap_cons, ih]; rfl
    rw [e] at h1
    exact ((flatMap_rep g x c S).append_left _).trans h1.symm
theorem flatMap_pw {α β : Type} {f g : α → List β} : ∀ l : List α, (∀ x ∈ l, (f x).Perm (g x)) → (l.flatMap f).Perm (l.flatMap g)
  | [], _ => by simp
  | a :: l, h => by
    simp only [List.flatMap_cons]
    exact (h a (List.mem_cons_self ..)).append (flatMap_pw l fun x hx => h x (List.mem_cons_of_mem _ hx))
theorem flatMap_of {α β : Type} {f : α → List β} {l m : List α} (h : l.Perm m) : (l.flatMap f).Perm (m.flatMap f) := by
  induction h with
  | nil => simp
  | cons x _ ih => simp only [List.flatMap_cons]; exact ih.append_left _
  | swap x y l => simp only [List.flatMap_cons]; rw [← List.append_assoc, ← List.append_assoc]; exact List.Perm.append_right _ List.perm_append_comm
  | trans _ _ ih1 ih2 => exact ih1.trans ih2
theorem mput_mput {m : Mp} (h : Srt m) (k : List Int) (u v : Int) : mput (mput m k u) k v = mput m k v := srt_ext (srt_mput (srt_mput h)) (srt_mput h) fun p => by
  rw [mem_mput (srt_mput h), mem_mput h, mem_mput h]
  constructor
  · rintro (h1 | ⟨h1 | h1, h2⟩)
    · exact .inl h1
    · rw [h1] at h2; exact absurd rfl h2
    · exact .inr h1
  · rintro (h1 | h1)
    · exact .inl h1
    · exact .inr ⟨.inr h1, h1.2⟩
def VOk (k : Nat) (x : List Int) : Prop := x.length = 6 ∧ ∀ j, 0 ≤ x.getD j 0 ∧ x.getD j 0 ≤ k
theorem VOk.kok {k : Nat} {x : List Int} (h : VOk k x) (hk : k ≤ 1000) : kok 6 x = some () := kok_ok ⟨h.1, fun y hy => by
  obtain ⟨i, hi, rfl⟩ := List.getElem_of_mem hy
  have := h.2 i
  rw [List.getD_eq_getElem?_getD, List.getElem?_eq_getElem hi] at this
  simp only [Option.getD_some] at this
  omega⟩
theorem xok_zero : VOk 0 zeroX := ⟨rfl, fun j => by
  match j with
  | 0 | 1 | 2 | 3 | 4 | 5 => simp [zeroX]
  | j + 6 => simp [zeroX]⟩
theorem range_getD {g : Nat → Int} {N j : Nat} : ((List.range N).map g).getD j 0 = if j < N then g j else 0 := by
  rw [List.getD_eq_getElem?_getD, List.getElem?_map]
  by_cases h : j < N
  · rw [List.getElem?_range h, if_pos h]; rfl
  · rw [List.getElem?_eq_none (by simpa using h), if_neg h]; rfl
theorem xok_add {ms : List Meter} {a : Blow → Int → Bool} {k : Nat} {x : List Int} (h : VOk k x) (b : Blow) (f : Int) : VOk (k + 1) (addS ms a x b f) := by
  refine ⟨by simp [addS], fun j => ?_⟩
  unfold addS
  rw [range_getD]
  have := h.2 j
  by_cases hj : j < 6
  · rw [if_pos hj]
    by_cases h5 : j = 5
    · rw [if_pos h5]
      cases a b f
      · rw [if_neg (by simp)]; omega
      · rw [if_pos rfl]; omega
    · rw [if_neg h5]
      have := mtr_in ms f j; omega
  · rw [if_neg hj]; omega
theorem xok_rds {ms : List Meter} {a : Blow → Int → Bool} : ∀ (bl : List Blow) (k : Nat) (L : List (List Int)), (∀ x ∈ L, VOk k x) → ∀ x ∈ rdsF ms a bl L, VOk (k + bl.length) x
  | [], k, L, h => by simpa [rdsF] using h
  | b :: bl, k, L, h => by
    intro x hx
    have := xok_rds bl (k + 1) (L.flatMap fun x => (span b.Force.Low b.Force.High).map fun f => addS ms a x b f) (fun y hy => by
      obtain ⟨z, hz, hy⟩ := List.mem_flatMap.1 hy
      obtain ⟨f, _, rfl⟩ := List.mem_map.1 hy
      exact xok_add (h z hz) b f) x hx
    rw [List.length_cons, show k + (bl.length + 1) = k + 1 + bl.length by omega]
    exact this
theorem xok_of {ms : List Meter} {a : Blow → Int → Bool} {bl : List Blow} (h : bl.length ≤ 8) : ∀ x ∈ rdsF ms a bl [zeroX], VOk 8 x := fun x hx => by
  have := xok_rds bl 0 [zeroX] (fun y hy => by rw [List.mem_singleton.1 hy]; exact xok_zero) x hx
  exact ⟨this.1, fun j => by have := this.2 j; omega⟩
theorem flatMap_len {α β : Type} {f : α → List β} {c : Nat} : ∀ {l : List α}, (∀ x ∈ l, (f x).length ≤ c) → (l.flatMap f).length ≤ l.length * c
  | [], _ => by simp
  | a :: l, h => by
    have h1 := h a (List.mem_cons_self ..)
    have h2 := flatMap_len (l := l) fun x hx => h x (List.mem_cons_of_mem _ hx)
    simp only [List.flatMap_cons, List.length_append, List.length_cons, Nat.succ_mul]
    omega
theorem rds_len {d : Canopy} {ms : List Meter} {a : Blow → Int → Bool} : ∀ (bl : List Blow) (L : List (List Int)), (∀ b ∈ bl, BlOk d b) → (rdsF ms a bl L).length ≤ L.length * 10 ^ bl.length
  | [], L, _ => by simp [rdsF]
  | b :: bl, L, h => by
    have h1 := rds_len (ms := ms) (a := a) bl (L.flatMap fun x => (span b.Force.Low b.Force.High).map fun f => addS ms a x b f) fun y hy => h y (List.mem_cons_of_mem _ hy)
    have hb := h b (List.mem_cons_self ..)
    have h2 : (L.flatMap fun x => (span b.Force.Low b.Force.High).map fun f => addS ms a x b f).length ≤ L.length * 10 := flatMap_len fun x _ => by
      rw [List.length_map, span_len]
      have := hb.gap; omega
    have h3 := Nat.mul_le_mul_right (10 ^ bl.length) h2
    rw [List.length_cons, Nat.pow_succ]
    calc _ ≤ _ := h1
      _ ≤ L.length * 10 * 10 ^ bl.length := h3
      _ = L.length * (10 ^ bl.length * 10) := by rw [Nat.mul_assoc, Nat.mul_comm 10]
theorem sum_nonneg {l : Mp} (h : ∀ z ∈ l, 0 < z.2) : 0 ≤ (l.map (·.2)).sum := by
  induction l with
  | nil => simp
  | cons z l ih =>
    have := h z (List.mem_cons_self ..)
    have := ih fun y hy => h y (List.mem_cons_of_mem _ hy)
    simp only [List.map_cons, List.sum_cons]; omega
theorem sum_perm {l m : Mp} (h : l.Perm m) : (l.map (·.2)).sum = (m.map (·.2)).sum := by
  induction h with
  | nil => rfl
  | cons x _ ih => simp only [List.map_cons, List.sum_cons, ih]
  | swap x y l => simp only [List.map_cons, List.sum_cons]; omega
  | trans _ _ ih1 ih2 => exact ih1.trans ih2
theorem len_rep {S : List Int} {g : List Int × Int → Int → List Int} (hS : S.length ≤ 10) {l : Mp} (h : ∀ z ∈ l, 0 < z.2) : ((l.flatMap fun p => S.flatMap fun f => List.replicate p.2.toNat (g p f)).length : Int) ≤ 10 * (l.map (·.2)).sum := by
  induction l with
  | nil => simp
  | cons z l ih =>
    have hz := h z (List.mem_cons_self ..)
    have h1 := ih fun y hy => h y (List.mem_cons_of_mem _ hy)
    have h2 : (S.flatMap fun f => List.replicate z.2.toNat (g z f)).length ≤ S.length * z.2.toNat := flatMap_len fun f _ => by simp
    have h3 := Nat.mul_le_mul_right z.2.toNat hS
    simp only [List.flatMap_cons, List.length_append, List.map_cons, List.sum_cons]
    omega
theorem setx_range {N i : Nat} {g : Nat → Int} (y : Int) : setx ((List.range N).map g) (i : Int) y = (List.range N).map fun j => if j = i then y else g j := by
  apply List.ext_getElem?
  intro j
  unfold setx
  simp only [Int.toNat_natCast, List.getElem?_set, List.getElem?_map, List.length_map, List.length_range]
  by_cases h : j < N
  · rw [List.getElem?_range h]
    by_cases e : i = j
    · subst e; simp [h]
    · simp [e, Ne.symm e]
  · rw [List.getElem?_eq_none (by simpa using h)]
    by_cases e : i = j
    · subst e; simp [h]
    · simp [e]
theorem geti_range {N i : Nat} {g : Nat → Int} (h : i < N) : geti ((List.range N).map g) (i : Int) = some (g i) := by
  rw [geti_nat, List.getElem?_map, List.getElem?_range h]; rfl
/-- the first i meters have read -/
def addP (ms : List Meter) (x : List Int) (f : Int) (i : Nat) : List Int := (List.range 6).map fun j => x.getD j 0 + (if j < i then mtr ms f j else 0)
theorem addP_zero {ms : List Meter} {x : List Int} {f : Int} (h : x.length = 6) : addP ms x f 0 = x := by
  apply List.ext_getElem?
  intro j
  unfold addP
  by_cases hj : j < 6
  · rw [List.getElem?_map, List.getElem?_range hj, List.getElem?_eq_getElem (by omega)]
    simp [List.getD_eq_getElem?_getD, List.getElem?_eq_getElem (show j < x.length by omega)]
  · rw [List.getElem?_eq_none (by simpa using hj), List.getElem?_eq_none (by omega)]
section
variable {n : Nat} (hn : 100000000 ≤ n)
include hn
theorem p_add {r : Run} {asked : Blow → Int → Option Bool} {a : Blow → Int → Bool} (hm : r.Meters.length ≤ 5) {k : Nat} (hk : k ≤ 1000) {x : List Int} (hx : VOk k x) {b : Blow} {f : Int} (ha : asked b f = some (a b f)) :
    F_counts_test_add n ⟨r, asked⟩ x b f = some (addS r.Meters a x b f) := by
  have hl := loop_run (step := F_counts_test_add_s1 n ⟨r, asked⟩ f) (fun i => ((i : Int), addP r.Meters x f i)) (r := addP r.Meters x f r.Meters.length) r.Meters.length 0 n (fun i _ hi => by
    have hi : i < r.Meters.length := by omega
    have e : r.Meters[i]? = some r.Meters[i] := List.getElem?_eq_getElem hi
    simp only [F_counts_test_add_s1, lt_nat, hi, decide_true, if_true, geti_nat, e, Option.bind_some]
    have hx2 := hx.2 i
    by_cases h : r.Meters[i].Limit ≤ f
    · simp only [h, decide_true, if_true]
      have hg : (addP r.Meters x f i)[i]? = some (x.getD i 0 + 0) := by
        unfold addP
        rw [List.getElem?_map, List.getElem?_range (by omega)]
        simp
      rw [hg]
      simp only [Option.bind_some, w64_nat (show i ≤ 4611686018427387904 by omega)]
      rw [w64_id (by omega) (by omega)]
      congr 3
      unfold addP
      rw [setx_range]
      apply List.map_congr_left
      intro j _
      by_cases e1 : j = i
      · subst e1; rw [if_pos rfl, if_pos (by omega), mtr_some e, if_pos h]; omega
      · rw [if_neg e1]
        by_cases e2 : j < i
        · rw [if_pos e2, if_pos (by omega)]
        · rw [if_neg e2, if_neg (by omega)]
    · simp only [h, decide_false, Bool.false_eq_true, if_false, Option.bind_some, w64_nat (show i ≤ 4611686018427387904 by omega)]
      congr 3
      unfold addP
      apply List.map_congr_left
      intro j _
      by_cases e1 : j = i
      · subst e1; rw [if_neg (by omega), if_pos (by omega), mtr_some e, if_neg h]
      · by_cases e2 : j < i
        · rw [if_pos e2, if_pos (by omega)]
        · rw [if_neg e2, if_neg (by omega)]) (by simp [F_counts_test_add_s1]) (by omega)
  simp only [Int.natCast_zero, Nat.zero_add] at hl
  rw [addP_zero hx.1] at hl
  simp only [F_counts_test_add, hl, Option.bind_some, ha]
  have e5 : geti (addP r.Meters x f r.Meters.length) 5 = some (x.getD 5 0) := by
    have := geti_range (g := fun j => x.getD j 0 + (if j < r.Meters.length then mtr r.Meters f j else 0)) (show 5 < 6 by omega)
    rw [if_neg (by omega), Int.add_zero] at this
    exact this
  have hx5 := hx.2 5
  have last : ∀ v : Int, setx (addP r.Meters x f r.Meters.length) 5 v = (List.range 6).map fun j => if j = 5 then v else x.getD j 0 + mtr r.Meters f j := fun v => by
    have := setx_range (N := 6) (i := 5) (g := fun j => x.getD j 0 + (if j < r.Meters.length then mtr r.Meters f j else 0)) v
    unfold addP
    rw [show ((5 : Nat) : Int) = 5 from rfl] at this
    rw [this]
    apply List.map_congr_left
    intro j _
    by_cases e1 : j = 5
    · rw [if_pos e1, if_pos e1]
    · rw [if_neg e1, if_neg e1]
      by_cases e2 : j < r.Meters.length
      · rw [if_pos e2]
      · rw [if_neg e2, mtr_none (by omega)]
  cases h : a b f with
  | true =>
    simp only [if_true, e5, Option.bind_some]
    rw [w64_id (by omega) (by omega), last]
    congr 1
    unfold addS
    apply List.map_congr_left
    intro j _
    by_cases e1 : j = 5
    · rw [if_pos e1, if_pos e1, e1, h]; simp
    · rw [if_neg e1, if_neg e1]
  | false =>
    simp only [Bool.false_eq_true, if_false, Option.bind_some]
    congr 1
    unfold addS addP
    apply List.map_congr_left
    intro j _
    by_cases e1 : j = 5
    · rw [if_pos e1, if_neg (by omega), h]; simp
    · rw [if_neg e1]
      by_cases e2 : j < r.Meters.length
      · rw [if_pos e2]
      · rw [if_neg e2, mtr_none (by omega)]
theorem p_force {r : Run} {asked : Blow → Int → Option Bool} {a : Blow → Int → Bool} (hm : r.Meters.length ≤ 5) {k : Nat} (hk : k ≤ 100) {x : List Int} (hx : VOk k x) {b : Blow} {v : Int} (hv : 0 < v) {hi : Int} (hhi : b.Force.High = hi) (hhi2 : hi ≤ 99) :
    ∀ (c : Nat) (lo : Int) (L : List (List Int)) (m : Mp) (fuel : Nat), (hi + 1 - lo).toNat = c → 0 ≤ lo → (∀ f, lo ≤ f → f ≤ hi → asked b f = some (a b f)) → RM L m → (L.length : Int) + v * (c + 1) ≤ 1000000000000 → c < fuel →
      ∃ m', loopO fuel (F_counts_test_readings_s3 n ⟨r, asked⟩ b v x) (lo, m) = some m' ∧ RM (L ++ (span lo hi).flatMap fun f => List.replicate v.toNat (addS r.Meters a x b f)) m' := by
  intro c
  induction c with
  | zero =>
    intro lo L m fuel hc h0 ha hL hb hf
    refine ⟨m, ?_, ?_⟩
    · refine loop_done ?_ hf
      simp only [F_counts_test_readings_s3]
      rw [show decide (lo ≤ b.Force.High) = false by rw [hhi]; exact decide_eq_false (by omega)]
      rfl
    · rw [span_nil (by omega)]; simpa using hL
  | succ c ih =>
    intro lo L m fuel hc h0 ha hL hb hf
    obtain ⟨fuel, rfl⟩ : ∃ k, fuel = k + 1 := ⟨fuel - 1, by omega⟩
    have hle : lo ≤ hi := by omega
    have hadd := p_add hn hm (by omega) hx (ha lo (Int.le_refl _) hle)
    have hkk := (xok_add (ms := r.Meters) (a := a) hx b lo).kok (by omega)
    have hget := hL.get (addS r.Meters a x b lo)
    have hcount := List.count_le_length (a := addS r.Meters a x b lo) (l := L)
    have hmul : v * ((c : Int) + 1 + 1) = v * ((c : Int) + 1) + v := by rw [Int.mul_add v _ 1, Int.mul_one]
    have hmul2 : 0 ≤ v * ((c : Int) + 1) := Int.mul_nonneg (by omega) (by omega)
    have hb' : (L.length : Int) + v * ((c : Int) + 1) + v ≤ 1000000000000 := by
      have : (((c + 1 : Nat) : Int) + 1) = (c : Int) + 1 + 1 := by omega
      rw [this, hmul] at hb; omega
    have hstep : F_counts_test_readings_s3 n ⟨r, asked⟩ b v x (lo, m) = some (.inl (lo + 1, mput m (addS r.Meters a x b lo) (mget m (addS r.Meters a x b lo) + v))) := by
      simp only [F_counts_test_readings_s3]
      rw [show decide (lo ≤ b.Force.High) = true by rw [hhi]; exact decide_eq_true hle]
      simp only [if_true, hadd, Option.bind_some, hkk]
      rw [w64_id (by omega) (by omega), w64_id (by omega) (by omega), mput_mput hL.srt]
    obtain ⟨m', h1, h2⟩ := ih (lo + 1) (L ++ List.replicate v.toNat (addS r.Meters a x b lo)) _ fuel (by omega) (by omega) (fun f h1 h2 => ha f (by omega) h2) (hL.add _ hv) (by
      rw [List.length_append, List.length_replicate]; omega) (by omega)
    refine ⟨m', by rw [loopO_succ, hstep]; exact h1, ?_⟩
    rw [span_cons hle, List.flatMap_cons, ← List.append_assoc]
    exact h2
theorem p_blow {r : Run} {asked : Blow → Int → Option Bool} {a : Blow → Int → Bool} (hr : ROk r) {b : Blow} (hb : b ∈ r.Blows) (ha : ∀ f, b.Force.Low ≤ f → f ≤ b.Force.High → asked b f = some (a b f)) {k : Nat} (hk : k ≤ 100) {L : List (List Int)} (hL : ∀ x ∈ L, VOk k x) (hlen : L.length ≤ 10000000) {M : Mp} (hM : RM L M) :
    permO (F_counts_test_readings_s2 n ⟨r, asked⟩ b) [] M = some (tally (L.flatMap fun x => (span b.Force.Low b.Force.High).map fun f => addS r.Meters a x b f)) := by
  have hbo := hr.b b hb
  have hS : (span b.Force.Low b.Force.High).length ≤ 10 := by rw [span_len]; have := hbo.gap; omega
  refine permO_of fun l hl => ?_
  have key : ∀ (q d : Mp) (m : Mp), (∀ p ∈ q, p ∈ M) → (∀ p ∈ d, p ∈ M) → RM (d.flatMap fun p => (span b.Force.Low b.Force.High).flatMap fun f => List.replicate p.2.toNat (addS r.Meters a p.1 b f)) m → ((d ++ q).map (·.2)).sum ≤ 10000000 →
      ∃ m', foldP (F_counts_test_readings_s2 n ⟨r, asked⟩ b) m q = some m' ∧ RM ((d ++ q).flatMap fun p => (span b.Force.Low b.Force.High).flatMap fun f => List.replicate p.2.toNat (addS r.Meters a p.1 b f)) m' := by
    intro q
    induction q with
    | nil => intro d m _ _ h _; exact ⟨m, rfl, by simpa using h⟩
    | cons p q ih =>
      intro d m hq hd h hs
      have hpM := hq p (List.mem_cons_self ..)
      have hpos := hM.pos p hpM
      have hx := hL p.1 (hM.key.1 ⟨p.2, hpM⟩)
      have hsq := sum_nonneg (l := q) fun z hz => hM.pos z (hq z (List.mem_cons_of_mem _ hz))
      have hsd := sum_nonneg (l := d) fun z hz => hM.pos z (hd z hz)
      have hsum : (d.map (·.2)).sum + (p.2 + (q.map (·.2)).sum) ≤ 10000000 := by
        simpa [List.sum_append] using hs
      have hlen1 := len_rep (g := fun p f => addS r.Meters a p.1 b f) hS (l := d) fun z hz => hM.pos z (hd z hz)
      obtain ⟨m1, h1, h2⟩ := p_force hn hr.nm hk hx hpos rfl hbo.hi _ b.Force.Low _ m n rfl hbo.lo ha h (by
        have hc : (((b.Force.High + 1 - b.Force.Low).toNat : Nat) : Int) + 1 ≤ 11 := by have := hbo.gap; omega
        have := Int.mul_le_mul_of_nonneg_left hc (show 0 ≤ p.2 by omega)
        omega) (by have := hbo.gap; omega)
      have hst : F_counts_test_readings_s2 n ⟨r, asked⟩ b m p = some m1 := by
        cases p
        simp only [F_counts_test_readings_s2, h1, Option.bind_some]
      obtain ⟨m2, h3, h4⟩ := ih (d ++ [p]) m1 (fun z hz => hq z (List.mem_cons_of_mem _ hz)) (fun z hz => by
        rcases List.mem_append.1 hz with hz | hz
        · exact hd z hz
        · rw [List.mem_singleton.1 hz]; exact hpM) (by simpa using h2) (by simpa using hs)
      refine ⟨m2, by rw [foldP, hst]; exact h3, by simpa using h4⟩
  have htot : (l.map (·.2)).sum ≤ 10000000 := by
    rw [sum_perm hl, hM.total]; omega
  obtain ⟨m', h1, h2⟩ := key l [] [] (fun p hp => hl.mem_iff.1 hp) (by simp) (by simpa using RM.nil) (by simpa using htot)
  rw [h1]
  congr 1
  refine (h2.perm' ?_).eq
  rw [List.nil_append]
  refine (flatMap_of hl).trans ?_
  have e : (M.flatMap fun p => (List.replicate p.2.toNat p.1).flatMap fun x => (span b.Force.Low b.Force.High).map fun f => addS r.Meters a x b f) = (expand M).flatMap fun x => (span b.Force.Low b.Force.High).map fun f => addS r.Meters a x b f := by
    unfold expand; rw [List.flatMap_assoc]
  refine (flatMap_pw M fun p _ => flatMap_rep (fun x f => addS r.Meters a x b f) p.1 p.2.toNat (span b.Force.Low b.Force.High)).trans ?_
  rw [e]
  exact flatMap_of hM.perm
/-- all readings of all cases -/
def rds (r : Run) (a : Blow → Int → Bool) : List (List Int) := rdsF r.Meters a r.Blows [zeroX]
theorem p_readings {r : Run} {asked : Blow → Int → Option Bool} {a : Blow → Int → Bool} (hr : ROk r) (ha : ∀ b ∈ r.Blows, ∀ f, b.Force.Low ≤ f → f ≤ b.Force.High → asked b f = some (a b f)) : F_counts_test_readings n ⟨r, asked⟩ = some (tally (rds r a)) := by
  have e0 : mput ([] : Mp) [0, 0, 0, 0, 0, 0] 1 = tally [zeroX] := by
    refine RM.eq ?_
    have := RM.nil.add zeroX (c := 1) (by omega)
    simpa [mget_nil, zeroX] using this
  have hl := loop_run (step := F_counts_test_readings_s1 n ⟨r, asked⟩) (fun i => (tally (rdsF r.Meters a (r.Blows.take i) [zeroX]), (i : Int))) (r := tally (rds r a)) r.Blows.length 0 n (fun i _ hi => by
    have hi : i < r.Blows.length := by omega
    have e : r.Blows[i]? = some r.Blows[i] := List.getElem?_eq_getElem hi
    simp only [F_counts_test_readings_s1, lt_nat, hi, decide_true, if_true, geti_nat, e, Option.bind_some]
    have hsub : ∀ b ∈ r.Blows.take i, b ∈ r.Blows := fun b hb => List.mem_of_mem_take hb
    have hlen := rds_len (d := r.Canopy) (ms := r.Meters) (a := a) (r.Blows.take i) [zeroX] fun b hb => hr.b b (hsub b hb)
    have hnb := hr.nb
    have hp : (10 : Nat) ^ (r.Blows.take i).length ≤ 10 ^ 7 := Nat.pow_le_pow_right (by omega) (by rw [List.length_take]; omega)
    have := p_blow hn hr (List.getElem_mem hi) (ha _ (List.getElem_mem hi)) (k := 8) (by omega) (L := rdsF r.Meters a (r.Blows.take i) [zeroX]) (xok_of (by rw [List.length_take]; omega)) (by
      simp only [List.length_cons, List.length_nil] at hlen; omega) (tally_ok _)
    rw [this]
    simp only [Option.bind_some, w64_nat (show i ≤ 4611686018427387904 by omega)]
    congr 3
    rw [List.take_succ_eq_append_getElem hi]
    unfold rdsF
    rw [List.foldl_append]
    rfl) (by simp [F_counts_test_readings_s1, rds]) (by have := hr.nb; omega)
  simp only [Int.natCast_zero, Nat.zero_add, List.take_zero] at hl
  have hk : kok 6 [0, 0, 0, 0, 0, 0] = some () := xok_zero.kok (by omega)
  simp only [F_counts_test_readings, hk, Option.bind_some, e0]
  rw [show rdsF r.Meters a [] [zeroX] = [zeroX] from rfl] at hl
  rw [hl]; rfl
end
def wrongX (ms : List Meter) (x : List Int) : Nat := (List.range ms.length).countP fun i => !(x.getD i 0 == ((ms[i]?).getD ⟨0, 0⟩).Count)
def goodX (r : Run) (x : List Int) : Bool := decide ((wrongX r.Meters x : Int) ≤ r.Wrong)
section
variable {n : Nat} (hn : 100000000 ≤ n)
include hn
theorem p_right {r : Run} {asked : Blow → Int → Option Bool} {x : List Int} (hx : x.length = 6) (hm : r.Meters.length ≤ 5) {i : Nat} (hi : i < r.Meters.length) : F_counts_test_right n ⟨r, asked⟩ x i = some (x.getD i 0 == ((r.Meters[i]?).getD ⟨0, 0⟩).Count) := by
  have _hn := hn
  have e : r.Meters[i]? = some r.Meters[i] := List.getElem?_eq_getElem hi
  have e2 : x[i]? = some (x[i]'(by omega)) := List.getElem?_eq_getElem (by omega)
  simp only [F_counts_test_right, geti_nat, e, e2, Option.bind_some, Option.getD_some, List.getD_eq_getElem?_getD]
theorem p_wrong {r : Run} {asked : Blow → Int → Option Bool} {x : List Int} (hx : x.length = 6) (hm : r.Meters.length ≤ 5) : F_counts_test_wrong n ⟨r, asked⟩ x = some (wrongX r.Meters x : Int) := by
  have hl := loop_fold (step := F_counts_test_wrong_s1 n ⟨r, asked⟩ x) (List.range r.Meters.length) (fun i (b : Int) => (b, (i : Int))) (fun b i => if (!(x.getD i 0 == ((r.Meters[i]?).getD ⟨0, 0⟩).Count)) = true then b + 1 else b) (fun b => b) (fun i b => 0 ≤ b ∧ b ≤ i) (n := n) 0 (by omega) (fun i j b hj hI => by
    have hi : i < r.Meters.length := by simpa using (List.getElem?_eq_some_iff.1 hj).1
    have e : j = i := by
      have := (List.getElem?_eq_some_iff.1 hj).2
      simpa using this.symm
    subst e
    simp only [F_counts_test_wrong_s1, lt_nat, hi, decide_true, if_true, p_right hn hx hm hi, Option.bind_some, w64_nat (show j ≤ 4611686018427387904 by omega)]
    cases (x.getD j 0 == ((r.Meters[j]?).getD ⟨0, 0⟩).Count) with
    | true => simp; omega
    | false =>
      simp only [Bool.not_false, if_true, Option.bind_some]
      rw [w64_id (by omega) (by omega)]
      exact ⟨rfl, by omega⟩) (fun b _ => by simp [F_counts_test_wrong_s1]) (by simp; omega)
  simp only [List.length_range, Int.natCast_zero] at hl
  simp only [F_counts_test_wrong]
  rw [hl.1]
  simp only [Option.bind_some]
  rw [foldl_count, Int.zero_add]
  rfl
omit hn in
theorem foldl_del (bad : List Int → Bool) : ∀ (l m : Mp), l.foldl (fun m (p : List Int × Int) => if bad p.1 = true then mdel m p.1 else m) m = m.filter fun q => !(l.any fun p => bad p.1 && (q.1 == p.1))
  | [], m => by simp [List.filter_eq_self.2]
  | p :: l, m => by
    rw [List.foldl_cons, foldl_del bad l]
    cases hb : bad p.1 with
    | true =>
      rw [if_pos rfl, mdel, List.filter_filter]
      congr 1
      funext q
      simp only [List.any_cons, hb, Bool.true_and, Bool.not_or]
      cases (q.1 == p.1) <;> simp
    | false =>
      simp only [Bool.false_eq_true, if_false]
      congr 1
      funext q
      simp only [List.any_cons, hb, Bool.false_and, Bool.false_or]
theorem p_truthsR {r : Run} {asked : Blow → Int → Option Bool} {a : Blow → Int → Bool} (hr : ROk r) (ha : ∀ b ∈ r.Blows, ∀ f, b.Force.Low ≤ f → f ≤ b.Force.High → asked b f = some (a b f)) : F_counts_test_truths n ⟨r, asked⟩ = some (tally ((rds r a).filter (goodX r))) := by
  have hT := tally_ok (rds r a)
  have h6 : ∀ p ∈ tally (rds r a), p.1.length = 6 := fun p hp => (xok_of hr.nb p.1 (hT.key.1 ⟨p.2, hp⟩)).1
  have hP : permO (F_counts_test_truths_s1 n ⟨r, asked⟩) (tally (rds r a)) (tally (rds r a)) = some (tally ((rds r a).filter (goodX r))) := by
    refine permO_of fun l hl => ?_
    have h1 := foldP_some (step := F_counts_test_truths_s1 n ⟨r, asked⟩) (fun m (p : List Int × Int) => if (!goodX r p.1) = true then mdel m p.1 else m) (m := tally (rds r a)) l (tally (rds r a)) (fun p hp => hl.mem_iff.1 hp) (fun m p hp => by
      obtain ⟨x, v⟩ := p
      have hlen := h6 _ hp
      simp only at hlen
      simp only [F_counts_test_truths_s1, p_wrong hn hlen hr.nm, Option.bind_some]
      have e : decide (r.Wrong < (wrongX r.Meters x : Int)) = !goodX r x := by
        unfold goodX; rw [← decide_not]; congr 1; simp
      rw [e]
      cases goodX r x <;> rfl)
    rw [h1, foldl_del (fun x => !goodX r x) l]
    congr 1
    rw [← (hT.filter (goodX r)).eq]
    refine List.filter_congr fun q hq => ?_
    cases hg : goodX r q.1 with
    | true =>
      have : (l.any fun p => !goodX r p.1 && (q.1 == p.1)) = false := by
        rw [List.any_eq_false]
        intro p _ hh
        simp only [Bool.and_eq_true, beq_iff_eq] at hh
        rw [← hh.2, hg] at hh
        simp at hh
      rw [this]; rfl
    | false =>
      have : (l.any fun p => !goodX r p.1 && (q.1 == p.1)) = true := List.any_eq_true.2 ⟨q, hl.mem_iff.2 hq, by simp [hg]⟩
      rw [this]; rfl
  simp only [F_counts_test_truths, p_readings hn hr ha, Option.bind_some, hP]
/-- readings of truths -/
def trs (r : Run) (a : Blow → Int → Bool) : List (List Int) := (rds r a).filter (goodX r)
def openE (r : Run) (is : Bool) (a : Blow → Int → Bool) : Int := if checkR r ≠ 0 then checkR r else if is = false then 1 else if trs r a = [] then 3 else 0
theorem p_open {r : Run} (hs : SmallR r) (is : Bool) {asked : Blow → Int → Option Bool} {a : Blow → Int → Bool} (ha : ROk r → ∀ b ∈ r.Blows, ∀ f, b.Force.Low ≤ f → f ≤ b.Force.High → asked b f = some (a b f)) :
    F_counts_open n r is asked = some (if openE r is a = 0 then (some ⟨r, asked⟩, tally (trs r a), 0) else (none, [], openE r is a)) := by
  simp only [F_counts_open, p_CheckC hn hs, Option.bind_some]
  unfold openE
  by_cases h : checkR r = 0
  · have hr := checkR_ok.1 h
    simp only [h, bne_self_eq_false, Bool.false_eq_true, if_false, ne_eq, not_true_eq_false]
    cases is with
    | false => rfl
    | true =>
      simp only [Bool.not_true, Bool.false_eq_true, if_false, p_truthsR hn hr (ha hr), Option.bind_some]
      have ht := tally_ok (trs r a)
      by_cases h0 : trs r a = []
      · have e := ht.len0.2 h0
        rw [show tally ((rds r a).filter (goodX r)) = tally (trs r a) from rfl, e, if_pos h0]; rfl
      · have e : ¬ tally (trs r a) = [] := fun e => h0 (ht.len0.1 e)
        rw [show tally ((rds r a).filter (goodX r)) = tally (trs r a) from rfl, if_neg h0]
        have : ((tally (trs r a)).length : Int) ≠ 0 := fun e2 => e (List.eq_nil_of_length_eq_zero (by omega))
        have e3 : (((tally (trs r a)).length : Int) == 0) = false := by simpa using this
        rw [e3]; rfl
  · have e : (checkR r != 0) = true := by simpa using h
    rw [e]
    simp only [if_true, ne_eq, h, not_false_eq_true, if_false]
end
end Go.Proofs.Yteihdclpiekmaaa
end
