/-
  Gusts, plain: loads, what a rib bears, the rounds, as the program walks them.
-/
import Derived.Test.YteihdclpiekmaaaLfPga
namespace Go.Proofs.Yteihdclpiekmaaa
open Go Go.RowKit Go.Dec
set_option linter.unusedVariables false

structure BOk (b : gusts_blown) : Prop where
  r : 3 ≤ b.ribs.length ∧ b.ribs.length ≤ 10
  s : b.shares.length = b.ribs.length
  l : 0 ≤ b.lift ∧ b.lift ≤ 200
  sh : ∀ x ∈ b.shares, 0 ≤ x ∧ x ≤ 99
structure GOk (N : Nat) (g : Gust) : Prop where
  f : 0 ≤ g.Force ∧ g.Force ≤ 99
  a : 0 ≤ g.At ∧ g.At < N
def shareS (sh : List Int) (g : Gust) (i : Nat) : Int := (sh[(i + sh.length - g.At.toNat) % sh.length]?).getD 0
def loadS (lift : Int) (sh : List Int) (g : Gust) (i : Nat) : Int := (g.Force * lift * shareS sh g i).tdiv 100
theorem share_get {sh : List Int} {g : Gust} (h0 : 0 < sh.length) (i : Nat) : sh[(i + sh.length - g.At.toNat) % sh.length]? = some (shareS sh g i) := by
  have := Nat.mod_lt (i + sh.length - g.At.toNat) h0
  simp [shareS, this]
theorem share_in {sh : List Int} (hs : ∀ x ∈ sh, 0 ≤ x ∧ x ≤ 99) {g : Gust} (h0 : 0 < sh.length) (i : Nat) : 0 ≤ shareS sh g i ∧ shareS sh g i ≤ 99 := hs _ (List.mem_of_getElem? (share_get h0 i))
theorem prod_in {lift : Int} (hl : 0 ≤ lift ∧ lift ≤ 200) {sh : List Int} (hs : ∀ x ∈ sh, 0 ≤ x ∧ x ≤ 99) {g : Gust} (hf : 0 ≤ g.Force ∧ g.Force ≤ 99) (h0 : 0 < sh.length) (i : Nat) : (0 ≤ g.Force * lift ∧ g.Force * lift ≤ 19800) ∧ (0 ≤ g.Force * lift * shareS sh g i ∧ g.Force * lift * shareS sh g i ≤ 1960200) := by
  have h1 := mul_in hf.1 hf.2 hl.1 hl.2
  have hsh := share_in hs (g := g) h0 i
  have h2 := mul_in (A := 19800) h1.1 (by omega) hsh.1 hsh.2
  exact ⟨⟨h1.1, by omega⟩, h2.1, by omega⟩
theorem load_in {lift : Int} (hl : 0 ≤ lift ∧ lift ≤ 200) {sh : List Int} (hs : ∀ x ∈ sh, 0 ≤ x ∧ x ≤ 99) {g : Gust} (hf : 0 ≤ g.Force ∧ g.Force ≤ 99) (h0 : 0 < sh.length) (i : Nat) : 0 ≤ loadS lift sh g i ∧ loadS lift sh g i ≤ 19602 := by
  have := (prod_in hl hs hf h0 i).2
  unfold loadS
  rw [Int.tdiv_eq_ediv_of_nonneg this.1]
  omega
theorem load_ok {b : gusts_blown} (hb : BOk b) {g : Gust} (hg : GOk b.ribs.length g) : LOk (loadS b.lift b.shares g) b.ribs.length := fun i _ => by
  have := load_in hb.l hb.sh hg.f (by have := hb.s; have := hb.r; omega) i
  omega
theorem tmod_nat (a b : Nat) : (a : Int).tmod (b : Int) = ((a % b : Nat) : Int) := rfl
theorem nz_nat {k : Nat} (h : 0 < k) : nz (k : Int) = some () := by
  unfold nz; rw [if_neg (by omega)]
theorem nneg_nat (k : Nat) : nneg (k : Int) = some () := by
  unfold nneg; rw [if_neg (by omega)]
section
variable {n : Nat} (hn : 100000000 ≤ n)
include hn
theorem p_load {b : gusts_blown} (hb : BOk b) {g : Gust} (hg : GOk b.ribs.length g) {i : Nat} (hi : i < b.ribs.length) : F_gusts_blown_load n b g (i : Int) = some (loadS b.lift b.shares g i) := by
  have _hn := hn
  have h1 := hb.r; have h2 := hb.s; have h3 := hg.a
  have h0 : 0 < b.shares.length := by omega
  have e : w64 (w64 ((i : Int) - g.At) + (b.shares.length : Int)) = ((i + b.shares.length - g.At.toNat : Nat) : Int) := by
    rw [w64_id (n := (i : Int) - g.At) (by omega) (by omega), w64_id (by omega) (by omega)]; omega
  obtain ⟨⟨p1, p2⟩, p3, p4⟩ := prod_in hb.l hb.sh hg.f h0 i
  have hd : 0 ≤ loadS b.lift b.shares g i ∧ loadS b.lift b.shares g i ≤ 19602 := load_in hb.l hb.sh hg.f h0 i
  simp only [F_gusts_blown_load, nz_nat h0, Option.bind_some, e, tmod_nat, geti_nat, share_get h0]
  rw [w64_id (n := g.Force * b.lift) (by omega) (by omega), w64_id (n := g.Force * b.lift * _) (by omega) (by omega)]
  show some (w64 (loadS b.lift b.shares g i)) = _
  rw [w64_id (by omega) (by omega)]
theorem walk_side {b : gusts_blown} (hb : BOk b) {g : Gust} (hg : GOk b.ribs.length g) (p : Nat → Bool) {i : Nat} (hi : i < b.ribs.length) {st : Nat} (hst : st < b.ribs.length) (hback : (i + b.ribs.length * st) % b.ribs.length = i) (hne : ∀ k, 1 ≤ k → k < b.ribs.length → (i + k * st) % b.ribs.length ≠ i) :
    ∀ (m k : Nat) (a : Int) (f : Nat), k + m = b.ribs.length → 1 ≤ k → 0 ≤ a → a ≤ 20000 * k → m < f →
      loopO f (F_gusts_blown_bears_s2 n b g i (enc b.ribs.length p) st) (a, (((i + k * st) % b.ribs.length : Nat) : Int)) = some (a + sideS (loadS b.lift b.shares g) p ((List.range' k m).map fun k => (i + k * st) % b.ribs.length)) := by
  have hr := hb.r
  have hL := load_ok hb hg
  intro m
  induction m with
  | zero =>
    intro k a f hk h1 h2 h3 hf
    have : k = b.ribs.length := by omega
    subst this
    rw [hback]
    refine loop_done ?_ hf
    simp [F_gusts_blown_bears_s2, sideS_nil]
  | succ m ih =>
    intro k a f hk h1 h2 h3 hf
    obtain ⟨f', rfl⟩ : ∃ z, f = z + 1 := ⟨f - 1, by omega⟩
    have hlt : (i + k * st) % b.ribs.length < b.ribs.length := Nat.mod_lt _ (by omega)
    have hne' := hne k h1 (by omega)
    have hneI : ((((i + k * st) % b.ribs.length : Nat) : Int) != (i : Int)) = true := by
      simp only [bne_iff_ne, ne_eq]; intro e; exact hne' (by exact_mod_cast e)
    have hbit := bit_eq1 (m := enc b.ribs.length p) (i := (i + k * st) % b.ribs.length) (enc_16 hr.2 p) (by omega)
    rw [enc_bit] at hbit
    simp only [hlt, decide_true, Bool.true_and] at hbit
    rw [List.range'_succ, List.map_cons, sideS_cons]
    have hl := hL _ hlt
    rw [loopO_succ]
    simp only [F_gusts_blown_bears_s2, hneI, if_true, nneg_nat, Option.bind_some, hbit]
    by_cases hp : p ((i + k * st) % b.ribs.length) = true
    · simp only [hp, if_true, p_load hn hb hg hlt, Option.bind_some, nz_nat (show 0 < b.ribs.length by omega)]
      have e : (w64 ((((i + k * st) % b.ribs.length : Nat) : Int) + (st : Int))).tmod (b.ribs.length : Int) = (((i + (k + 1) * st) % b.ribs.length : Nat) : Int) := by
        rw [w64_id (by omega) (by omega)]
        have : (((i + k * st) % b.ribs.length : Nat) : Int) + (st : Int) = (((i + k * st) % b.ribs.length + st : Nat) : Int) := by omega
        rw [this, tmod_nat, Nat.mod_add_mod, Nat.add_mul, Nat.one_mul, Nat.add_assoc]
      have ha : w64 (a + loadS b.lift b.shares g ((i + k * st) % b.ribs.length)) = a + loadS b.lift b.shares g ((i + k * st) % b.ribs.length) := w64_id (by omega) (by omega)
      rw [e, ha, ih (k + 1) _ f' (by omega) (by omega) (by omega) (by push_cast; omega) (by omega)]
      simp only [Option.some.injEq]
      omega
    · simp only [Bool.not_eq_true] at hp
      simp only [hp, Bool.false_eq_true, if_false, Int.add_zero]
theorem p_side {b : gusts_blown} (hb : BOk b) {g : Gust} (hg : GOk b.ribs.length g) (p : Nat → Bool) {i : Nat} (hi : i < b.ribs.length) {st : Nat} (hst : st < b.ribs.length) (hback : (i + b.ribs.length * st) % b.ribs.length = i) (hne : ∀ k, 1 ≤ k → k < b.ribs.length → (i + k * st) % b.ribs.length ≠ i) :
    loopO n (F_gusts_blown_bears_s2 n b g i (enc b.ribs.length p) st) (0, (w64 ((i : Int) + st)).tmod (b.ribs.length : Int)) = some (sideS (loadS b.lift b.shares g) p (path b.ribs.length i st)) := by
  have hr := hb.r
  have e : (w64 ((i : Int) + st)).tmod (b.ribs.length : Int) = (((i + 1 * st) % b.ribs.length : Nat) : Int) := by
    rw [w64_id (by omega) (by omega)]
    have : (i : Int) + (st : Int) = ((i + st : Nat) : Int) := by omega
    rw [this, tmod_nat, Nat.one_mul]
  rw [e, walk_side hn hb hg p hi hst hback hne (b.ribs.length - 1) 1 0 n (by omega) (by omega) (by omega) (by omega) (by omega)]
  simp [path]
omit hn in
theorem step1 {N i : Nat} (hi : i < N) : (i + N * 1) % N = i ∧ ∀ k, 1 ≤ k → k < N → (i + k * 1) % N ≠ i := by
  refine ⟨by rw [Nat.mul_one, Nat.add_mod_right, Nat.mod_eq_of_lt hi], fun k h1 h2 e => ?_⟩
  rw [Nat.mul_one] at e
  by_cases h : i + k < N
  · rw [Nat.mod_eq_of_lt h] at e; omega
  · rw [Nat.mod_eq_sub_mod (by omega), Nat.mod_eq_of_lt (by omega)] at e; omega
omit hn in
theorem back_mod {N i k : Nat} (hi : i < N) (hk : k ≤ N) : (i + k * (N - 1)) % N = (i + N - k) % N := by
  obtain ⟨M, rfl⟩ : ∃ M, N = M + 1 := ⟨N - 1, by omega⟩
  rw [Nat.add_sub_cancel]
  have : i + k * M + k = (i + (M + 1) - k) + k + (k - 1) * (M + 1) + (if k = 0 then 0 else 0) ∨ k = 0 := by
    cases k with
    | zero => exact .inr rfl
    | succ k =>
      left
      simp only [Nat.add_sub_cancel, ite_self, Nat.add_zero]
      have e1 : (k + 1) * M = k * M + M := by rw [Nat.add_mul, Nat.one_mul]
      have e2 : k * (M + 1) = k * M + k := by rw [Nat.mul_add, Nat.mul_one]
      omega
  rcases this with h | rfl
  · simp only [ite_self, Nat.add_zero] at h
    have h' : i + k * M = (i + (M + 1) - k) + (k - 1) * (M + 1) := by omega
    rw [h', Nat.add_mul_mod_self_right]
  · simp
omit hn in
theorem stepB {N i : Nat} (hi : i < N) : (i + N * (N - 1)) % N = i ∧ ∀ k, 1 ≤ k → k < N → (i + k * (N - 1)) % N ≠ i := by
  refine ⟨by rw [Nat.add_mul_mod_self_left, Nat.mod_eq_of_lt hi], fun k h1 h2 e => ?_⟩
  rw [back_mod hi (by omega)] at e
  by_cases h : i + N - k < N
  · rw [Nat.mod_eq_of_lt h] at e; omega
  · rw [Nat.mod_eq_sub_mod (by omega), Nat.mod_eq_of_lt (by omega)] at e; omega
theorem p_bears {b : gusts_blown} (hb : BOk b) {g : Gust} (hg : GOk b.ribs.length g) (p : Nat → Bool) {i : Nat} (hi : i < b.ribs.length) : F_gusts_blown_bears n b g i (enc b.ribs.length p) = some (bearsS (loadS b.lift b.shares g) p b.ribs.length i) := by
  have hr := hb.r
  have hL := load_ok hb hg
  have a1 := side_in hL (by omega) hr.2 p i 1
  have a2 := side_in hL (by omega) hr.2 p i (b.ribs.length - 1)
  have t1 := tdiv2_in a1.1 a1.2
  have t2 := tdiv2_in a2.1 a2.2
  have hl := hL i hi
  have s1 := p_side hn hb hg p hi (st := 1) (by omega) (step1 hi).1 (step1 hi).2
  have s2 := p_side hn hb hg p hi (st := b.ribs.length - 1) (by omega) (stepB hi).1 (stepB hi).2
  have c2 : w64 ((b.ribs.length : Int) - 1) = ((b.ribs.length - 1 : Nat) : Int) := by rw [w64_id (by omega) (by omega)]; omega
  have hnz := nz_nat (show 0 < b.ribs.length by omega)
  obtain ⟨m, rfl⟩ : ∃ m, n = m + 3 := ⟨n - 3, by omega⟩
  unfold F_gusts_blown_bears
  rw [p_load hn hb hg hi]
  simp only [Option.bind_some]
  have w1 : w64 ((0 : Int) + 1) = 1 := by decide
  have w2 : w64 ((1 : Int) + 1) = 2 := by decide
  have g0 : geti [1, w64 ((b.ribs.length : Int) - 1)] 0 = some ((1 : Nat) : Int) := rfl
  have g1 : geti [1, w64 ((b.ribs.length : Int) - 1)] 1 = some ((b.ribs.length - 1 : Nat) : Int) := by rw [c2]; rfl
  have st0 : F_gusts_blown_bears_s1 (m + 3) b g i (enc b.ribs.length p) (loadS b.lift b.shares g i, 0) = some (.inl (loadS b.lift b.shares g i + (sideS (loadS b.lift b.shares g) p (path b.ribs.length i 1)).tdiv 2, 1)) := by
    simp only [F_gusts_blown_bears_s1, show decide ((0 : Int) < 2) = true from rfl, if_true, g0, Option.bind_some, hnz, s1, w1]
    rw [w64_id (n := (sideS _ _ _).tdiv 2) (by omega) (by omega), w64_id (by omega) (by omega)]
  have st1 : F_gusts_blown_bears_s1 (m + 3) b g i (enc b.ribs.length p) (loadS b.lift b.shares g i + (sideS (loadS b.lift b.shares g) p (path b.ribs.length i 1)).tdiv 2, 1) = some (.inl (bearsS (loadS b.lift b.shares g) p b.ribs.length i, 2)) := by
    simp only [F_gusts_blown_bears_s1, show decide ((1 : Int) < 2) = true from rfl, if_true, g1, Option.bind_some, hnz, s2, w2]
    rw [w64_id (n := (sideS _ _ _).tdiv 2) (by omega) (by omega), w64_id (by omega) (by omega)]
    rfl
  have st2 : F_gusts_blown_bears_s1 (m + 3) b g i (enc b.ribs.length p) (bearsS (loadS b.lift b.shares g) p b.ribs.length i, 2) = some (.inr (bearsS (loadS b.lift b.shares g) p b.ribs.length i)) := by
    simp [F_gusts_blown_bears_s1]
  rw [loopO_succ, st0]
  simp only
  rw [loopO_succ, st1]
  simp only
  rw [loopO_succ, st2]
  rfl

/-! ### the rounds -/
def ribS (b : gusts_blown) (i : Nat) : Int := (b.ribs[i]?).getD 0
theorem p_round {b : gusts_blown} (hb : BOk b) {g : Gust} (hg : GOk b.ribs.length g) (p : Nat → Bool) :
    loopO n (I_gusts_blown_rounds_1_s2 n b g (enc b.ribs.length p)) ((enc b.ribs.length p : Nat), 0) = some ((enc b.ribs.length (stepS (loadS b.lift b.shares g) (ribS b) b.ribs.length p) : Nat) : Int) := by
  have hr := hb.r
  have kk := loop_fold (step := I_gusts_blown_rounds_1_s2 n b g (enc b.ribs.length p)) (List.range b.ribs.length) (fun i (z : Nat) => ((z : Int), (i : Int))) (fun z i => if (!p i && decide (ribS b i < bearsS (loadS b.lift b.shares g) p b.ribs.length i)) = true then z ||| 2 ^ i else z) (fun z => (z : Int)) (fun i z => z < 65536) (n := n) (enc b.ribs.length p) (enc_16 hr.2 p) (fun i x z hx hz => ?_) (fun z hz => ?_) (by simp; omega)
  · obtain ⟨k1, k2⟩ := kk
    rw [show ((0 : Nat) : Int) = 0 from rfl] at k1
    rw [k1]
    simp only [Option.some.injEq, Int.natCast_inj]
    refine enc_eq fun j => ?_
    rw [enc_fold (fun i => !p i && decide (ribS b i < bearsS (loadS b.lift b.shares g) p b.ribs.length i)), enc_bit]
    by_cases hj : j < b.ribs.length
    · simp only [List.contains_eq_mem, List.mem_range, hj, decide_true, Bool.true_and, stepS]
      cases p j <;> simp
    · simp [hj]
  · obtain ⟨hi, hxi⟩ := List.getElem?_eq_some_iff.1 hx
    simp at hi hxi
    subst hxi
    have h2i : 2 ^ i < 65536 := Nat.lt_of_lt_of_le (Nat.pow_lt_pow_right (by decide) (show i < 16 by omega)) (by decide)
    have hrib : b.ribs[i]? = some (ribS b i) := by simp [ribS, hi]
    have hbit := bit_eq0 (m := enc b.ribs.length p) (i := i) (enc_16 hr.2 p) (by omega)
    rw [enc_bit] at hbit
    simp only [hi, decide_true, Bool.true_and] at hbit
    refine ⟨?_, ?_⟩
    · simp only [I_gusts_blown_rounds_1_s2, lt_nat, hi, decide_true, if_true, geti_nat, hrib, Option.bind_some, nneg_nat, hbit, p_bears hn hb hg p hi, w64_nat (show i ≤ 4611686018427387904 by omega)]
      cases hp : p i
      · simp only [Bool.not_false, if_true, Option.bind_some, Bool.true_and, decide_eq_true_eq]
        by_cases hc : ribS b i < bearsS (loadS b.lift b.shares g) p b.ribs.length i
        · simp only [hc, if_true, decide_true, bshl_one (show i < 16 by omega), bor_nat hz h2i, Option.bind_some]
        · simp only [hc, if_false, Bool.false_eq_true, decide_false, Option.bind_some]
      · simp only [Bool.not_true, Bool.false_eq_true, if_false, Option.bind_some, Bool.false_and]
    · split
      · exact Nat.or_lt_two_pow (n := 16) hz h2i
      · exact hz
  · simp only [List.length_range, I_gusts_blown_rounds_1_s2]
    simp
/-- the rounds that are yielded: from round k on, as long as more go -/
def roundsL (L S : Nat → Int) (N : Nat) : Nat → Nat → List Int
  | 0, _ => []
  | m + 1, k => if enc N (G L S N (k + 1)) = enc N (G L S N k) then [] else (enc N (G L S N (k + 1)) : Int) :: roundsL L S N m (k + 1)
theorem p_rounds {b : gusts_blown} (hb : BOk b) {g : Gust} (hg : GOk b.ribs.length g) {σ ρ : Type} (cs : σ → Int → Option (σ ⊕ ρ)) (s : σ) : I_gusts_blown_rounds_1 n b g cs s = foldO cs s (roundsL (loadS b.lift b.shares g) (ribS b) b.ribs.length (b.ribs.length + 1) 0) := by
  have hr := hb.r
  have key : ∀ (m k : Nat) (s : σ) (f : Nat), left (loadS b.lift b.shares g) (ribS b) b.ribs.length k < m → m < f →
      loopO f (I_gusts_blown_rounds_1_s1 n b g cs) (((enc b.ribs.length (G (loadS b.lift b.shares g) (ribS b) b.ribs.length k) : Nat) : Int), s) = foldO cs s (roundsL (loadS b.lift b.shares g) (ribS b) b.ribs.length m k) := by
    intro m
    induction m with
    | zero => intro k s f h; omega
    | succ m ih =>
      intro k s f hk hf
      obtain ⟨f', rfl⟩ : ∃ z, f = z + 1 := ⟨f - 1, by omega⟩
      rw [loopO_succ, roundsL]
      simp only [I_gusts_blown_rounds_1_s1, p_round hn hb hg, Option.bind_some]
      rw [show stepS (loadS b.lift b.shares g) (ribS b) b.ribs.length (G (loadS b.lift b.shares g) (ribS b) b.ribs.length k) = G (loadS b.lift b.shares g) (ribS b) b.ribs.length (k + 1) from rfl]
      by_cases he : enc b.ribs.length (G (loadS b.lift b.shares g) (ribS b) b.ribs.length (k + 1)) = enc b.ribs.length (G (loadS b.lift b.shares g) (ribS b) b.ribs.length k)
      · simp [he, foldO]
      · have he' : (((enc b.ribs.length (G (loadS b.lift b.shares g) (ribS b) b.ribs.length (k + 1)) : Nat) : Int) == ((enc b.ribs.length (G (loadS b.lift b.shares g) (ribS b) b.ribs.length k) : Nat) : Int)) = false := by
          simp only [beq_eq_false_iff_ne, ne_eq, Int.natCast_inj]; exact he
        have hnf : ¬ fixd (loadS b.lift b.shares g) (ribS b) b.ribs.length k := fun h => he (enc_inj.2 h)
        have hl := left_lt hnf
        simp only [he', Bool.false_eq_true, if_false, he, foldO]
        cases hc : cs s ((enc b.ribs.length (G (loadS b.lift b.shares g) (ribS b) b.ribs.length (k + 1)) : Nat) : Int) with
        | none => simp
        | some y =>
          cases y with
          | inl s' => simp only [Option.bind_some]; exact ih (k + 1) s' f' (by omega) (by omega)
          | inr r => simp
  have h0 : enc b.ribs.length (G (loadS b.lift b.shares g) (ribS b) b.ribs.length 0) = 0 := enc_zero.2 fun _ _ => rfl
  have := key (b.ribs.length + 1) 0 s n (by have := left_le (loadS b.lift b.shares g) (ribS b) b.ribs.length 0; omega) (by omega)
  rw [h0] at this
  exact this
theorem p_first {b : gusts_blown} (hb : BOk b) {g : Gust} (hg : GOk b.ribs.length g) : F_gusts_blown_first n b g = some ((enc b.ribs.length (G (loadS b.lift b.shares g) (ribS b) b.ribs.length 1) : Nat) : Int) := by
  have h0 : enc b.ribs.length (G (loadS b.lift b.shares g) (ribS b) b.ribs.length 0) = 0 := enc_zero.2 fun _ _ => rfl
  simp only [F_gusts_blown_first, F_gusts_blown_rounds, Option.bind_some, p_rounds hn hb hg, roundsL, h0, Nat.zero_add]
  by_cases he : enc b.ribs.length (G (loadS b.lift b.shares g) (ribS b) b.ribs.length 1) = 0
  · simp [he, foldO]
  · simp [he, foldO, F_gusts_blown_first_s1]
omit hn in
theorem rounds_last {L S : Nat → Int} {N : Nat} (hN : 0 < N) : ∀ (m k : Nat), left L S N k < m → (roundsL L S N m k).foldl (fun _ x => x) ((enc N (G L S N k) : Nat) : Int) = ((enc N (G L S N (k + m)) : Nat) : Int)
  | 0, k, h => by omega
  | m + 1, k, h => by
    rw [roundsL]
    by_cases he : enc N (G L S N (k + 1)) = enc N (G L S N k)
    · rw [if_pos he]
      have hf : fixd L S N k := enc_inj.1 he
      have := (fixd_le hN (show k ≤ k + (m + 1) by omega) hf).2
      rw [enc_inj.2 this]; rfl
    · rw [if_neg he, List.foldl_cons]
      have hl := left_lt (L := L) (S := S) (show ¬ fixd L S N k from fun h => he (enc_inj.2 h))
      have := rounds_last (L := L) (S := S) hN m (k + 1) (by omega)
      rw [show k + 1 + m = k + (m + 1) by omega] at this
      exact this
theorem p_last {b : gusts_blown} (hb : BOk b) {g : Gust} (hg : GOk b.ribs.length g) : F_gusts_blown_last n b g = some ((enc b.ribs.length (G (loadS b.lift b.shares g) (ribS b) b.ribs.length b.ribs.length) : Nat) : Int) := by
  have hr := hb.r
  have h0 : enc b.ribs.length (G (loadS b.lift b.shares g) (ribS b) b.ribs.length 0) = 0 := enc_zero.2 fun _ _ => rfl
  simp only [F_gusts_blown_last, F_gusts_blown_rounds, Option.bind_some, p_rounds hn hb hg]
  have k1 := (foldO_foldl (ρ := Unit) (cs := F_gusts_blown_last_s1 n) (fun _ x => x) (fun _ _ => True) (roundsL (loadS b.lift b.shares g) (ribS b) b.ribs.length (b.ribs.length + 1) 0) 0 (0 : Int) trivial (fun i s a _ _ _ => ⟨rfl, trivial⟩)).1
  rw [k1]
  have k2 := rounds_last (L := loadS b.lift b.shares g) (S := ribS b) (N := b.ribs.length) (by omega) (b.ribs.length + 1) 0 (by have := left_le (loadS b.lift b.shares g) (ribS b) b.ribs.length 0; omega)
  rw [h0] at k2
  simp only [Option.bind_some]
  rw [show ((0 : Nat) : Int) = 0 from rfl] at k2
  rw [k2]
  have hf := fixd_n (loadS b.lift b.shares g) (ribS b) (n := b.ribs.length) (by omega)
  have := (fixd_le (by omega) (show b.ribs.length ≤ 0 + (b.ribs.length + 1) by omega) hf).2
  rw [enc_inj.2 this]
/-- a set's numbers -/
def listS (N : Nat) (p : Nat → Bool) : List Int := ((List.range N).filter p).map fun i : Nat => (i : Int)
theorem p_list {N : Nat} (hN : N ≤ 10) (p : Nat → Bool) : F_gusts_ribs_list n (enc N p : Nat) = some (listS N p) := by
  have kk := loop_fold (step := F_gusts_ribs_list_s1 n (enc N p : Nat)) (List.range 10) (fun i (z : List Int) => ((i : Int), z)) (fun z i => if (decide (i < N) && p i) = true then z ++ [(i : Int)] else z) (fun z => z) (fun i z => z.length ≤ i) (n := n) [] (by simp) (fun i x z hx hz => ?_) (fun z hz => ?_) (by simp; omega)
  · obtain ⟨k1, _⟩ := kk
    unfold F_gusts_ribs_list
    rw [show ((0 : Nat) : Int) = 0 from rfl] at k1
    rw [k1]
    have e : ∀ (l : List Nat) (out : List Int), l.foldl (fun z i => if (decide (i < N) && p i) = true then z ++ [(i : Int)] else z) out = out ++ ((l.filter fun i => decide (i < N) && p i).map fun i : Nat => (i : Int)) := by
      intro l
      induction l with
      | nil => simp
      | cons a l ih =>
        intro out
        rw [List.foldl_cons, ih, List.filter_cons]
        split <;> simp
    rw [e]
    simp only [Option.bind_some, List.nil_append, listS]
    have h10 : List.range 10 = List.range N ++ (List.range (10 - N)).map (N + ·) := by
      rw [← List.range_add]; congr 1; omega
    rw [h10, List.filter_append]
    have f1 : (List.range N).filter (fun i => decide (i < N) && p i) = (List.range N).filter p := by
      apply List.filter_congr
      intro x hx
      simp [List.mem_range.1 hx]
    have f2 : ((List.range (10 - N)).map (N + ·)).filter (fun i => decide (i < N) && p i) = [] := by
      rw [List.filter_eq_nil_iff]
      intro x hx
      obtain ⟨y, _, rfl⟩ := List.mem_map.1 hx
      have : ¬ N + y < N := by omega
      simp [this]
    rw [f1, f2, List.append_nil]
  · obtain ⟨hi, hxi⟩ := List.getElem?_eq_some_iff.1 hx
    simp at hi hxi
    subst hxi
    have hbit := bit_eq1 (m := enc N p) (i := i) (enc_16 hN p) (by omega)
    rw [enc_bit] at hbit
    have hd : decide ((i : Int) < 10) = true := by simp; omega
    refine ⟨?_, ?_⟩
    · simp only [F_gusts_ribs_list_s1, hd, if_true, nneg_nat, Option.bind_some, hbit, w64_nat (show i ≤ 4611686018427387904 by omega)]
      by_cases hc : (decide (i < N) && p i) = true
      · rw [if_pos hc, if_pos hc, lim_ok (by simp; omega)]; rfl
      · rw [if_neg hc, if_neg hc]; rfl
    · split
      · rw [List.length_append]; simp; omega
      · omega
  · simp [F_gusts_ribs_list_s1]
end
end Go.Proofs.Yteihdclpiekmaaa
