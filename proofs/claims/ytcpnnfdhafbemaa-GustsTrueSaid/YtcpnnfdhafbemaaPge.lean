/-
  Gusts, plain: the reference's rounds and answers.
-/
import Derived.Test.YtcpnnfdhafbemaaPgd
namespace Go.Proofs.Ytcpnnfdhafbemaa
open Go Go.RowKit Go.Dec
set_option linter.unusedVariables false

def lst {α : Type} (N : Nat) (f : Nat → α) : List α := (List.range N).map f
theorem lst_len {α : Type} (N : Nat) (f : Nat → α) : (lst N f).length = N := by simp [lst]
theorem lst_get {α : Type} {N : Nat} (f : Nat → α) {i : Nat} (h : i < N) : (lst N f)[i]? = some (f i) := by simp [lst, h]
def part {α : Type} (N i : Nat) (f g : Nat → α) : List α := lst N fun j => if j < i then f j else g j
theorem part_zero {α : Type} (N : Nat) (f g : Nat → α) : part N 0 f g = lst N g := by simp [part]
theorem part_all {α : Type} (N : Nat) (f g : Nat → α) : part N N f g = lst N f := by
  unfold part lst
  refine List.map_congr_left fun j hj => ?_
  rw [if_pos (List.mem_range.1 hj)]
theorem part_get {α : Type} {N i : Nat} (f g : Nat → α) (h : i < N) : (part N i f g)[i]? = some (g i) := by
  unfold part; rw [lst_get _ h]; simp
theorem part_set {α : Type} {N i : Nat} (f g : Nat → α) (h : i < N) {y : α} (hy : y = f i) : setx (part N i f g) (i : Int) y = part N (i + 1) f g := by
  subst hy
  unfold setx part lst
  refine List.ext_getElem (by simp) fun j h1 h2 => ?_
  simp only [List.getElem_set, List.getElem_map, List.getElem_range, Int.toNat_natCast]
  by_cases hij : i = j
  · subst hij; simp
  · rw [if_neg hij]
    by_cases hj : j < i
    · rw [if_pos hj, if_pos (by omega)]
    · rw [if_neg hj, if_neg (by omega)]
theorem part_skip {α : Type} {N i : Nat} (f g : Nat → α) (h : f i = g i) : part N i f g = part N (i + 1) f g := by
  unfold part lst
  refine List.map_congr_left fun j hj => ?_
  by_cases hij : j = i
  · subst hij; simp [h]
  · by_cases hj : j < i
    · rw [if_pos hj, if_pos (by omega)]
    · rw [if_neg hj, if_neg (by omega)]
theorem lst_repl {α : Type} (N : Nat) (x : α) : List.replicate N x = lst N fun _ => x := by
  refine List.ext_getElem (by simp [lst]) fun j h1 h2 => by simp [lst]
theorem idx_fwd {N i k : Nat} (hN : N ≤ 10) (hi : i < N) (h1 : 1 ≤ k) (h2 : k < N) : (w64 (((w64 ((i : Int) + w64 ((k : Int) * 1))).tmod (N : Int)) + (N : Int))).tmod (N : Int) = (((i + k * 1) % N : Nat) : Int) := by
  rw [Int.mul_one, w64_id (n := (k : Int)) (by omega) (by omega), w64_id (n := (i : Int) + k) (by omega) (by omega)]
  have e1 : (i : Int) + (k : Int) = ((i + k : Nat) : Int) := by omega
  have := Nat.mod_lt (i + k) (show 0 < N by omega)
  rw [e1, tmod_nat, w64_id (by omega) (by omega)]
  have e2 : (((i + k) % N : Nat) : Int) + (N : Int) = (((i + k) % N + N : Nat) : Int) := by omega
  rw [e2, tmod_nat, Nat.add_mod_right, Nat.mod_mod, Nat.mul_one]
theorem idx_bwd {N i k : Nat} (hN : N ≤ 10) (hi : i < N) (h1 : 1 ≤ k) (h2 : k < N) : (w64 (((w64 ((i : Int) + w64 ((k : Int) * (-1)))).tmod (N : Int)) + (N : Int))).tmod (N : Int) = (((i + k * (N - 1)) % N : Nat) : Int) := by
  rw [back_mod hi (by omega)]
  have e0 : (k : Int) * (-1) = -(k : Int) := by omega
  rw [e0, w64_id (n := -(k : Int)) (by omega) (by omega), w64_id (n := (i : Int) + -(k : Int)) (by omega) (by omega)]
  by_cases h : k ≤ i
  · have e1 : (i : Int) + -(k : Int) = ((i - k : Nat) : Int) := by omega
    have hm : (i - k) % N = i - k := Nat.mod_eq_of_lt (by omega)
    rw [e1, tmod_nat, hm, w64_id (by omega) (by omega)]
    have e2 : ((i - k : Nat) : Int) + (N : Int) = ((i + N - k : Nat) : Int) := by omega
    rw [e2, tmod_nat]
  · have e1 : (i : Int) + -(k : Int) = -((k - i : Nat) : Int) := by omega
    have hm : (k - i) % N = k - i := Nat.mod_eq_of_lt (by omega)
    rw [e1, Int.neg_tmod, tmod_nat, hm, w64_id (by omega) (by omega)]
    have e2 : -((k - i : Nat) : Int) + (N : Int) = ((i + N - k : Nat) : Int) := by omega
    rw [e2, tmod_nat]
section
variable {n : Nat} (hn : 100000000 ≤ n)
include hn
theorem side_walk {N : Nat} (hN : 3 ≤ N ∧ N ≤ 10) {L : Nat → Int} (hL : LOk L N) (p : Nat → Bool) {i st : Nat} {step : Int} (hi : i < N) (hidx : ∀ k : Nat, 1 ≤ k → k < N → (w64 (((w64 ((i : Int) + w64 ((k : Int) * step))).tmod (N : Int)) + (N : Int))).tmod (N : Int) = (((i + k * st) % N : Nat) : Int)) :
    F_ref05_side n (lst N L) (lst N p) i step = some (sideS L p (path N i st)) := by
  have key : ∀ (m k : Nat) (a : Int) (f : Nat), k + m = N → 1 ≤ k → 0 ≤ a → a ≤ 20000 * k → m < f →
      ∃ r, loopO f (F_ref05_side_s1 n (lst N L) (lst N p) i step) (a, (k : Int)) = some r ∧ (match r with | .inl o => some o | .inr s => some s) = some (a + sideS L p ((List.range' k m).map fun k => (i + k * st) % N)) := by
    intro m
    induction m with
    | zero =>
      intro k a f hk h1 h2 h3 hf
      refine ⟨.inr a, loop_done ?_ hf, by simp [sideS_nil]⟩
      have : k = N := by omega
      subst this
      simp [F_ref05_side_s1, lst_len]
    | succ m ih =>
      intro k a f hk h1 h2 h3 hf
      obtain ⟨f', rfl⟩ : ∃ z, f = z + 1 := ⟨f - 1, by omega⟩
      have hkN : k < N := by omega
      have hlt : (i + k * st) % N < N := Nat.mod_lt _ (by omega)
      have hl := hL _ hlt
      rw [List.range'_succ, List.map_cons, sideS_cons, loopO_succ]
      simp only [F_ref05_side_s1, lst_len, lt_nat, hkN, decide_true, if_true, nz_nat (show 0 < N by omega), Option.bind_some, hidx k h1 hkN, geti_nat, lst_get L hlt, lst_get p hlt]
      cases hp : p ((i + k * st) % N)
      · exact ⟨.inl a, by simp, by simp⟩
      · have ha : w64 (a + L ((i + k * st) % N)) = a + L ((i + k * st) % N) := w64_id (by omega) (by omega)
        obtain ⟨r, e1, e2⟩ := ih (k + 1) (a + L ((i + k * st) % N)) f' (by omega) (by omega) (by omega) (by push_cast; omega) (by omega)
        refine ⟨r, ?_, ?_⟩
        · simp only [Bool.not_true, Bool.false_eq_true, if_false, ha, w64_nat (show k ≤ 4611686018427387904 by omega)]
          exact e1
        · rw [e2]; simp only [if_true, Option.some.injEq]; omega
  obtain ⟨r, e1, e2⟩ := key (N - 1) 1 0 n (by omega) (by omega) (by omega) (by omega) (by omega)
  unfold F_ref05_side
  rw [show ((1 : Nat) : Int) = 1 from rfl] at e1
  rw [e1]
  simp only [Option.bind_some]
  refine Eq.trans ?_ (e2.trans (by simp [path]))
  cases r <;> rfl
theorem p_side1 {N : Nat} (hN : 3 ≤ N ∧ N ≤ 10) {L : Nat → Int} (hL : LOk L N) (p : Nat → Bool) {i : Nat} (hi : i < N) : F_ref05_side n (lst N L) (lst N p) i 1 = some (sideS L p (path N i 1)) :=
  side_walk hn hN hL p hi fun k h1 h2 => idx_fwd hN.2 hi h1 h2
theorem p_sideB {N : Nat} (hN : 3 ≤ N ∧ N ≤ 10) {L : Nat → Int} (hL : LOk L N) (p : Nat → Bool) {i : Nat} (hi : i < N) : F_ref05_side n (lst N L) (lst N p) i (-1) = some (sideS L p (path N i (N - 1))) :=
  side_walk hn hN hL p hi fun k h1 h2 => idx_bwd hN.2 hi h1 h2
end

/-! ### the round in which each rib goes -/
def rnd (L S : Nat → Int) (N : Nat) : Nat → Nat → Int
  | 0, _ => 0
  | r + 1, j => if (!G L S N r j && decide (S j < bearsS L (G L S N r) N j)) = true then ((r + 1 : Nat) : Int) else rnd L S N r j
theorem G_succ {L S : Nat → Int} {N r j : Nat} (hj : j < N) : G L S N (r + 1) j = (G L S N r j || decide (S j < bearsS L (G L S N r) N j)) := by
  show stepS L S N (G L S N r) j = _
  simp [stepS, hj]
theorem rnd_spec {L S : Nat → Int} {N j : Nat} (hj : j < N) : ∀ r, (G L S N r j = false → rnd L S N r j = 0) ∧ (G L S N r j = true → 1 ≤ rnd L S N r j ∧ rnd L S N r j ≤ r)
  | 0 => by simp [G, rnd]
  | r + 1 => by
    obtain ⟨h1, h2⟩ := rnd_spec (L := L) (S := S) hj r
    rw [G_succ hj, rnd]
    cases hg : G L S N r j
    · cases hc : decide (S j < bearsS L (G L S N r) N j)
      · simp [h1 hg]
      · simp; omega
    · have := h2 hg
      simp; omega
theorem rnd_one {L S : Nat → Int} {N j : Nat} (hj : j < N) : ∀ r, (rnd L S N (r + 1) j = 1 ↔ G L S N 1 j = true)
  | 0 => by
    rw [G_succ hj, rnd]
    have h0 : G L S N 0 j = false := rfl
    rw [h0]
    cases decide (S j < bearsS L (G L S N 0) N j) <;> simp [rnd]
  | r + 1 => by
    rw [rnd]
    split
    · rename_i h
      simp only [Bool.and_eq_true, Bool.not_eq_true'] at h
      constructor
      · intro h2; exfalso; push_cast at h2; omega
      · intro h2
        have := G_le (show 1 ≤ r + 1 by omega) h2
        rw [h.1] at this; simp at this
    · exact rnd_one hj r
theorem rnd_wi {L S : Nat → Int} {N j : Nat} (hj : j < N) : wi (rnd L S N N j) 1 N = G L S N N j := by
  have := rnd_spec (L := L) (S := S) hj N
  cases hg : G L S N N j
  · rw [this.1 hg]; simp [wi]
  · have := this.2 hg
    simp [wi]; omega
theorem rnd_wi1 {L S : Nat → Int} {N j : Nat} (hj : j < N) : wi (rnd L S N N j) 1 1 = G L S N 1 j := by
  obtain ⟨M, rfl⟩ : ∃ M, N = M + 1 := ⟨N - 1, by omega⟩
  have := rnd_one (L := L) (S := S) hj M
  cases hg : G L S (M + 1) 1 j
  · rw [hg] at this
    have h : rnd L S (M + 1) (M + 1) j ≠ 1 := fun h => by simpa using this.1 h
    simp [wi]; omega
  · rw [hg] at this
    simp [wi, this.2 rfl]
theorem none_G {L S : Nat → Int} {N : Nat} (hN : 0 < N) : noneP N (G L S N N) = noneP N (G L S N 1) := by
  rw [Bool.eq_iff_iff, noneP_iff, noneP_iff]
  constructor
  · intro h i hi
    cases hg : G L S N 1 i
    · rfl
    · have := G_le (show 1 ≤ N by omega) hg
      rw [h i hi] at this; simp at this
  · intro h i hi
    have hf : fixd L S N 0 := fun j hj => h j hj
    rw [(fixd_le hN (Nat.zero_le N) hf).2 i hi]; rfl
theorem listS_congr {N : Nat} {p q : Nat → Bool} (h : ∀ j, j < N → p j = q j) : listS N p = listS N q := by
  unfold listS
  congr 1
  exact List.filter_congr fun j hj => h j (List.mem_range.1 hj)
theorem listS_none {N : Nat} {p : Nat → Bool} : (decide (0 < ((listS N p).length : Int))) = !noneP N p := by
  rw [Bool.eq_iff_iff]
  simp only [decide_eq_true_eq, Bool.not_eq_true', listS, List.length_map]
  constructor
  · intro h
    obtain ⟨j, hj⟩ := List.exists_mem_of_length_pos (show 0 < ((List.range N).filter p).length by omega)
    have := List.mem_filter.1 hj
    cases hc : noneP N p
    · rfl
    · have h2 := noneP_iff.1 hc j (List.mem_range.1 this.1)
      rw [this.2] at h2; simp at h2
  · intro h
    have : 0 < ((List.range N).filter p).length := by
      refine List.length_pos_iff_exists_mem.2 (Classical.byContradiction fun hc => ?_)
      have : noneP N p = true := noneP_iff.2 fun j hj => by
        cases hp : p j
        · rfl
        · exact absurd ⟨j, List.mem_filter.2 ⟨List.mem_range.2 hj, hp⟩⟩ hc
      rw [h] at this; simp at this
    omega
/-- a truth's strengths, by rib -/
def trS (t : ref05_Truth) (i : Nat) : Int := (t.Strengths[i]?).getD 0
structure TOk (N : Nat) (t : ref05_Truth) : Prop where
  l : 0 ≤ t.Lift ∧ t.Lift ≤ 200
  s : t.Strengths.length = N
def ldT (d : Canopy) (t : ref05_Truth) (g : Gust) : Nat → Int := loadS t.Lift d.Shares g
theorem ldT_ok {d : Canopy} (hd : DOk d) {g : Gust} (hg : GOk d.Ribs.length g) {t : ref05_Truth} (ht : TOk d.Ribs.length t) : LOk (ldT d t g) d.Ribs.length := fun i _ => by
  have := load_in ht.l hd.sh hg.f (sh_pos hd) i
  unfold ldT; omega
section
variable {n : Nat} (hn : 100000000 ≤ n)
include hn
theorem p_Rounds {d : Canopy} (hd : DOk d) {g : Gust} (hg : GOk d.Ribs.length g) {t : ref05_Truth} (ht : TOk d.Ribs.length t) : F_ref05_Rounds n d g t = some (lst d.Ribs.length (rnd (ldT d t g) (trS t) d.Ribs.length d.Ribs.length)) := by
  have hr := hd.r
  have hL := ldT_ok hd hg ht
  have hmk : mkn (d.Ribs.length : Int) = some () := by unfold mkn; rw [if_pos (by omega)]
  simp only [F_ref05_Rounds, hmk, Option.bind_some, Int.toNat_natCast, lst_repl]
  -- the loads
  have k1 := loop_foldl (step := F_ref05_Rounds_s1 n d g t) (List.range d.Ribs.length) (fun i (_ : Unit) => ((i : Int), part d.Ribs.length i (ldT d t g) (fun _ => 0))) (fun b _ => b) (fun _ => lst d.Ribs.length (ldT d t g)) (n := n) () (fun i x b hx hi => by
      simp only [List.length_range] at hi
      simp only [F_ref05_Rounds_s1, lt_nat, hi, decide_true, if_true, p_Load05 hn hd hg ht.l hi, Option.bind_some, geti_nat, part_get _ _ hi, w64_nat (show i ≤ 4611686018427387904 by omega)]
      rw [part_set _ _ hi (show loadS t.Lift d.Shares g i = ldT d t g i from rfl)]) (fun b => by
      simp only [List.length_range, part_all]
      simp [F_ref05_Rounds_s1]) (by simp; omega)
  simp only [part_zero, show ((0 : Nat) : Int) = 0 from rfl] at k1
  rw [k1]
  simp only [Option.bind_some]
  -- one round
  have inner : ∀ (r : Nat), r < d.Ribs.length → loopO n (F_ref05_Rounds_s3 n d t (lst d.Ribs.length (ldT d t g)) (lst d.Ribs.length (G (ldT d t g) (trS t) d.Ribs.length r)) ((r + 1 : Nat) : Int)) (0, lst d.Ribs.length (G (ldT d t g) (trS t) d.Ribs.length r), lst d.Ribs.length (rnd (ldT d t g) (trS t) d.Ribs.length r)) = some (lst d.Ribs.length (G (ldT d t g) (trS t) d.Ribs.length (r + 1)), lst d.Ribs.length (rnd (ldT d t g) (trS t) d.Ribs.length (r + 1))) := by
    intro r hrN
    have k2 := loop_foldl (step := F_ref05_Rounds_s3 n d t (lst d.Ribs.length (ldT d t g)) (lst d.Ribs.length (G (ldT d t g) (trS t) d.Ribs.length r)) ((r + 1 : Nat) : Int)) (List.range d.Ribs.length) (fun i (_ : Unit) => ((i : Int), part d.Ribs.length i (G (ldT d t g) (trS t) d.Ribs.length (r + 1)) (G (ldT d t g) (trS t) d.Ribs.length r), part d.Ribs.length i (rnd (ldT d t g) (trS t) d.Ribs.length (r + 1)) (rnd (ldT d t g) (trS t) d.Ribs.length r))) (fun b _ => b) (fun _ => (lst d.Ribs.length (G (ldT d t g) (trS t) d.Ribs.length (r + 1)), lst d.Ribs.length (rnd (ldT d t g) (trS t) d.Ribs.length (r + 1)))) (n := n) () (fun i x b hx hi => by
      simp only [List.length_range] at hi
      have a1 := side_in hL (by omega) hr.2 (G (ldT d t g) (trS t) d.Ribs.length r) i 1
      have a2 := side_in hL (by omega) hr.2 (G (ldT d t g) (trS t) d.Ribs.length r) i (d.Ribs.length - 1)
      have t1 := tdiv2_in a1.1 a1.2
      have t2 := tdiv2_in a2.1 a2.2
      have hl := hL i hi
      have hst : t.Strengths[i]? = some (trS t i) := by have := ht.s; simp [trS, show i < t.Strengths.length by omega]
      have hsum : w64 (w64 (ldT d t g i + w64 ((sideS (ldT d t g) (G (ldT d t g) (trS t) d.Ribs.length r) (path d.Ribs.length i (d.Ribs.length - 1))).tdiv 2)) + w64 ((sideS (ldT d t g) (G (ldT d t g) (trS t) d.Ribs.length r) (path d.Ribs.length i 1)).tdiv 2)) = bearsS (ldT d t g) (G (ldT d t g) (trS t) d.Ribs.length r) d.Ribs.length i := by
        rw [w64_id (n := (sideS _ _ (path _ _ (_ - 1))).tdiv 2) (by omega) (by omega), w64_id (n := (sideS _ _ (path _ _ 1)).tdiv 2) (by omega) (by omega), w64_id (n := ldT d t g i + _) (by omega) (by omega), w64_id (by omega) (by omega)]
        unfold bearsS; omega
      have hG := G_succ (L := ldT d t g) (S := trS t) (r := r) hi
      have hR : rnd (ldT d t g) (trS t) d.Ribs.length (r + 1) i = if (!G (ldT d t g) (trS t) d.Ribs.length r i && decide (trS t i < bearsS (ldT d t g) (G (ldT d t g) (trS t) d.Ribs.length r) d.Ribs.length i)) = true then ((r + 1 : Nat) : Int) else rnd (ldT d t g) (trS t) d.Ribs.length r i := rfl
      simp only [F_ref05_Rounds_s3, lt_nat, hi, decide_true, if_true, geti_nat, lst_get _ hi, Option.bind_some, p_side1 hn hr hL _ hi, p_sideB hn hr hL _ hi, hst, hsum, part_get _ _ hi, w64_nat (show i ≤ 4611686018427387904 by omega)]
      cases hg : G (ldT d t g) (trS t) d.Ribs.length r i
      · simp only [Bool.not_false, if_true, Option.bind_some]
        cases hc : decide (trS t i < bearsS (ldT d t g) (G (ldT d t g) (trS t) d.Ribs.length r) d.Ribs.length i)
        · simp only [Bool.false_eq_true, if_false, Option.bind_some]
          rw [part_skip _ _ (show G (ldT d t g) (trS t) d.Ribs.length (r + 1) i = G (ldT d t g) (trS t) d.Ribs.length r i by rw [hG, hc]; simp), part_skip _ _ (show rnd (ldT d t g) (trS t) d.Ribs.length (r + 1) i = rnd (ldT d t g) (trS t) d.Ribs.length r i by rw [hR, hc]; simp)]
        · simp only [if_true, Option.bind_some]
          rw [part_set _ _ hi (show true = G (ldT d t g) (trS t) d.Ribs.length (r + 1) i by rw [hG, hc]; simp), part_set _ _ hi (show ((r + 1 : Nat) : Int) = rnd (ldT d t g) (trS t) d.Ribs.length (r + 1) i by rw [hR, hc, hg]; simp)]
      · simp only [Bool.not_true, Bool.false_eq_true, if_false, Option.bind_some]
        rw [part_skip _ _ (show G (ldT d t g) (trS t) d.Ribs.length (r + 1) i = G (ldT d t g) (trS t) d.Ribs.length r i by rw [hG, hg]; simp), part_skip _ _ (show rnd (ldT d t g) (trS t) d.Ribs.length (r + 1) i = rnd (ldT d t g) (trS t) d.Ribs.length r i by rw [hR, hg]; simp)]) (fun b => by
      simp only [List.length_range, part_all]
      simp [F_ref05_Rounds_s3]) (by simp; omega)
    simp only [part_zero, show ((0 : Nat) : Int) = 0 from rfl] at k2
    exact k2
  have k3 := loop_foldl (step := F_ref05_Rounds_s2 n d t (lst d.Ribs.length (ldT d t g))) (List.range d.Ribs.length) (fun r (_ : Unit) => (lst d.Ribs.length (G (ldT d t g) (trS t) d.Ribs.length r), ((r + 1 : Nat) : Int), lst d.Ribs.length (rnd (ldT d t g) (trS t) d.Ribs.length r))) (fun b _ => b) (fun _ => lst d.Ribs.length (rnd (ldT d t g) (trS t) d.Ribs.length d.Ribs.length)) (n := n) () (fun r x b hx hi => by
      simp only [List.length_range] at hi
      have hle : decide (((r + 1 : Nat) : Int) ≤ (d.Ribs.length : Int)) = true := by simp; omega
      simp only [F_ref05_Rounds_s2, hle, if_true, List.nil_append]
      rw [lim_ok (by rw [lst_len]; omega)]
      simp only [Option.bind_some, inner r hi]
      rw [show w64 (((r + 1 : Nat) : Int) + 1) = ((r + 1 + 1 : Nat) : Int) from w64_nat (by omega)]) (fun b => by
      have hle : decide (((d.Ribs.length + 1 : Nat) : Int) ≤ (d.Ribs.length : Int)) = false := by simp; omega
      simp only [List.length_range, F_ref05_Rounds_s2, hle, Bool.false_eq_true, if_false]) (by simp; omega)
  have e0 : lst d.Ribs.length (G (ldT d t g) (trS t) d.Ribs.length 0) = lst d.Ribs.length fun _ => false := rfl
  have e1 : lst d.Ribs.length (rnd (ldT d t g) (trS t) d.Ribs.length 0) = lst d.Ribs.length fun _ => (0 : Int) := rfl
  simp only [Nat.zero_add, show ((1 : Nat) : Int) = 1 from rfl, e0, e1] at k3
  rw [k3]
  rfl
theorem p_went {N : Nat} (hN : N ≤ 10) (R : Nat → Int) (last : Int) : F_ref05_went n (lst N R) last = some (listS N fun j => wi (R j) 1 last) := by
  have kk := loop_fold (step := F_ref05_went_s1 n (lst N R) last) (List.range N) (fun i (z : List Int) => ((i : Int), z)) (fun z i => if wi (R i) 1 last = true then z ++ [(i : Int)] else z) (fun z => z) (fun i z => z.length ≤ i) (n := n) [] (by simp) (fun i x z hx hz => by
    obtain ⟨hi, hxi⟩ := List.getElem?_eq_some_iff.1 hx
    simp at hi hxi
    subst hxi
    refine ⟨?_, ?_⟩
    · simp only [F_ref05_went_s1, lst_len, lt_nat, hi, decide_true, if_true, geti_nat, lst_get _ hi, Option.bind_some, p_within05, w64_nat (show i ≤ 4611686018427387904 by omega)]
      split
      · rw [lim_ok (by simp; omega)]; rfl
      · rfl
    · split
      · rw [List.length_append]; simp; omega
      · omega) (fun z hz => by simp [F_ref05_went_s1, lst_len]) (by simp; omega)
  have k1 := kk.1
  rw [show ((0 : Nat) : Int) = 0 from rfl] at k1
  unfold F_ref05_went
  rw [k1]
  have e : ∀ (l : List Nat) (out : List Int), l.foldl (fun z i => if wi (R i) 1 last = true then z ++ [(i : Int)] else z) out = out ++ ((l.filter fun j => wi (R j) 1 last).map fun i : Nat => (i : Int)) := by
    intro l
    induction l with
    | nil => simp
    | cons a l ih =>
      intro out
      rw [List.foldl_cons, ih, List.filter_cons]
      split <;> simp
  rw [e]
  rfl
end
end Go.Proofs.Ytcpnnfdhafbemaa
