/-
  A part of the proof of HcHarm: the texts HaPgd, HaPge, HaPgf, HaPgg, EngZ, HaPca, HaPcb, HaPcc, HaPcd, HaPce.
-/
import Derived.Test.YtcipdblhopffbaaGreatJHcHarm11
section
namespace Go.Proofs.YtcipdblhopffbaaGreat
open Go Go.RowKit Go.Dec
set_option linter.unusedVariables false
theorem sh_pos {d : Canopy} (hd : DOk d) : 0 < d.Shares.length := by have := hd.s; have := hd.r; omega
section
variable {n : Nat} (hn : 100000000 ≤ n)
include hn
omit hn in
theorem p_within05 (n : Nat) (a b c : Int) : F_ref05_within n a b c = some (wi a b c) := rfl
omit hn in
theorem all_idx {α : Type} (l : List α) (p : α → Bool) (q : Nat → Bool) (h : ∀ i x, l[i]? = some x → q i = p x) : (List.range l.length).all q = l.all p := by
  rw [Bool.eq_iff_iff, List.all_eq_true, List.all_eq_true]
  constructor
  · intro h1 x hx
    obtain ⟨i, hi, rfl⟩ := List.getElem_of_mem hx
    rw [← h i _ (List.getElem?_eq_getElem hi)]
    exact h1 i (List.mem_range.2 hi)
  · intro h1 i hi
    have hi := List.mem_range.1 hi
    rw [h i _ (List.getElem?_eq_getElem hi)]
    exact h1 _ (List.getElem_mem hi)
omit hn in
theorem all_and {α : Type} (l : List α) (p q : α → Bool) : (l.all fun x => p x && q x) = (l.all p && l.all q) := by
  induction l with
  | nil => rfl
  | cons a l ih => simp only [List.all_cons, ih]; cases p a <;> cases q a <;> cases l.all p <;> cases l.all q <;> rfl
theorem p_Check05 {d : Canopy} (hs : Small d) : F_ref05_Check n d = some (if okD d = true then 0 else 50) := by
  have e3 : ((if okF d.Frame = true then (0 : Int) else 10) != 0) = !okF d.Frame := by cases okF d.Frame <;> rfl
  have e4 : ((d.Shares.length : Int) != (d.Ribs.length : Int)) = !((d.Shares.length : Int) == (d.Ribs.length : Int)) := rfl
  simp only [F_ref05_Check, p_Check01 hn hs.1, Option.bind_some, e3, e4, p_within05, or_br]
  have e5 : ((!okF d.Frame || !wi (d.Ribs.length : Int) 3 10) || !((d.Shares.length : Int) == (d.Ribs.length : Int))) = !(okF d.Frame && wi (d.Ribs.length : Int) 3 10 && ((d.Shares.length : Int) == (d.Ribs.length : Int))) := by simp only [Bool.not_and]
  rw [e5]
  unfold okD
  by_cases h : (okF d.Frame && wi (d.Ribs.length : Int) 3 10 && ((d.Shares.length : Int) == (d.Ribs.length : Int))) = true
  · have hsl : d.Shares.length = d.Ribs.length := by
      simp only [Bool.and_eq_true, beq_iff_eq] at h; omega
    have hr := hs.2.1
    simp only [h, Bool.not_true, Bool.false_eq_true, if_false, Bool.true_and]
    have kk := loop_all (step := F_ref05_Check_s1 n d) d.Ribs.length (fun i => okRib ((d.Ribs[i]?).getD ⟨0, 0⟩) && okSh ((d.Shares[i]?).getD 0)) (50 : Int) (n := n) (by omega) (fun i hi => ?_) ?_ (by omega)
    · rw [kk, all_and]
      rw [all_idx d.Ribs okRib (fun i => okRib ((d.Ribs[i]?).getD ⟨0, 0⟩)) (fun i x hx => by rw [hx]; rfl)]
      have := all_idx d.Shares okSh (fun i => okSh ((d.Shares[i]?).getD 0)) (fun i x hx => by rw [hx]; rfl)
      rw [hsl] at this
      rw [this]
      cases (d.Ribs.all okRib && d.Shares.all okSh) <;> rfl
    · have h1 : d.Ribs[i]? = some d.Ribs[i] := List.getElem?_eq_getElem hi
      have h2 : d.Shares[i]? = some (d.Shares[i]'(by omega)) := List.getElem?_eq_getElem (by omega)
      simp only [F_ref05_Check_s1, lt_nat, hi, decide_true, if_true, geti_nat, h1, h2, Option.bind_some, p_within05, or_br, Option.getD_some, w64_nat (show i ≤ 4611686018427387904 by omega)]
      have e6 : decide (99999 < d.Ribs[i].High) = !decide (d.Ribs[i].High ≤ 99999) := by rw [← decide_not]; congr 1; simp
      have e7 : ((!wi d.Ribs[i].Low 0 d.Ribs[i].High || decide (99999 < d.Ribs[i].High)) || !wi (d.Shares[i]'(by omega)) 0 99) = !(okRib d.Ribs[i] && okSh (d.Shares[i]'(by omega))) := by
        rw [e6]; simp only [okRib, okSh, Bool.not_and]
      rw [e7]
      cases (okRib d.Ribs[i] && okSh (d.Shares[i]'(by omega))) <;> rfl
    · simp [F_ref05_Check_s1]
  · simp only [Bool.not_eq_true] at h
    simp only [h, Bool.not_false, if_true, Bool.false_and, Bool.false_eq_true, if_false]
theorem p_IsClass05 {d : Canopy} (hs : Small d) {l : List Gust} (hl : l.length ≤ 1000) : F_ref05_IsClass n d l = some (decide (l.length ≤ 20) && l.all (okGust d)) := by
  unfold F_ref05_IsClass
  have kk := loop_all_l (step := F_ref05_IsClass_s1 n d l) l (okGust d) false (n := n) (by omega) (fun i x hx hi => ?_) ?_ (by omega)
  · rw [kk]
    cases l.all (okGust d)
    · simp
    · simp; omega
  · have hw : w64 ((d.Ribs.length : Int) - 1) = (d.Ribs.length : Int) - 1 := w64_id (by have := hs.2.1; omega) (by have := hs.2.1; omega)
    simp only [F_ref05_IsClass_s1, lt_nat, hi, decide_true, if_true, geti_nat, hx, Option.bind_some, p_within05, F_ref05_IsRib, hw, or_br, w64_nat (show i ≤ 4611686018427387904 by omega)]
    have e : (!wi x.Force 0 99 || !wi x.At 0 ((d.Ribs.length : Int) - 1)) = !okGust d x := by simp only [okGust, Bool.not_and]
    rw [e]
    cases okGust d x <;> rfl
  · simp [F_ref05_IsClass_s1]
theorem p_check05 {d : Canopy} (hs : Small d) {l : List Gust} (hl : l.length ≤ 1000) : F_ref05_check n d l = some (askG d l) := by
  simp only [F_ref05_check, p_Check05 hn hs, p_IsClass05 hn hs hl, Option.bind_some, askG]
  cases okD d
  · rfl
  · simp only [if_true, bne_self_eq_false, Bool.false_eq_true, if_false]
    cases (decide (l.length ≤ 20) && l.all (okGust d)) <;> rfl
theorem p_LiftOf {d : Canopy} (hd : DOk d) {p : ref01_Pair} (hp : XOk (toS p)) : F_ref05_LiftOf n d p = some (liftAt d (toS p)) := by
  have hl := hd.f.r
  have hd1 : 1 ≤ d.Frame.Low ∧ d.Frame.Low ≤ 6000 := by omega
  have hc := (cos_ok hd1 hp).1
  have hr := red_ok hc
  have hof : F_gusts_lift_1 n (red (cosF d.Frame.Low (toS p))) = some (ofL (red (cosF d.Frame.Low (toS p)))) := p_of hn hr
  obtain ⟨⟨h1, h2⟩, h3, h4⟩ := hr
  have hz : nz (red (cosF d.Frame.Low (toS p))).Den = some () := by unfold nz; rw [if_neg (by omega)]
  simp only [F_ref05_LiftOf, p_CosineOf hn (d := d.Frame.Low) (by omega) hp, if_neg (show ¬ d.Frame.Low = 0 by omega), Option.bind_some, hz]
  simp only [F_gusts_lift_1, F_gusts_down, hz, Option.bind_some] at hof
  rw [ofL_red hc.1.1] at hof
  unfold liftAt
  rw [← hof]
  split <;> rfl
theorem p_lift05 {d : Canopy} (hd : DOk d) : F_ref05_lift n d = some (liftS d) := by
  have hs := sec0 hd
  obtain ⟨l1, ⟨a, ha, ea⟩, b, hb, eb⟩ := lift_spec hd
  have hlen := sides_len hs
  have hli := lift_in hd
  simp only [F_ref05_lift, p_Pairs hn hd.f (i := 0) (by have := hd.f.n; omega), show ((0 : Nat) : Int) = 0 from rfl, Option.bind_some]
  have hP := p_Pairs hn hd.f (i := 0) (by have := hd.f.n; omega)
  rw [show ((0 : Nat) : Int) = 0 from rfl] at hP
  rw [hP]
  simp only [Option.bind_some]
  have kk := loop_foldl (step := F_ref05_lift_s1 n d (pairsL (secAt d.Frame 0))) (pairsL (secAt d.Frame 0)) (fun i (z : Int × Int) => ((i : Int), z.1, z.2)) (fun z p => (min z.1 (liftAt d (toS p)), max z.2 (liftAt d (toS p)))) (fun z => (z.1, z.2)) (n := n) (200, 0) (fun i x b hx hi => ?_) (fun b => ?_) (by rw [pairs_len hn]; omega)
  · rw [show ((0 : Nat) : Int) = 0 from rfl] at kk
    simp only at kk
    rw [kk]
    have e := foldl_pair (fun (z : Int) p => min z (liftAt d (toS p))) (fun (z : Int) p => max z (liftAt d (toS p))) (pairsL (secAt d.Frame 0)) 200 0
    rw [e]
    have f1 : (pairsL (secAt d.Frame 0)).foldl (fun (z : Int) p => min z (liftAt d (toS p))) 200 = ((pairsL (secAt d.Frame 0)).map fun p => liftAt d (toS p)).foldl min 200 := foldl_map' (fun p => liftAt d (toS p)) (fun (s : Int) x => min s x) (pairsL (secAt d.Frame 0)) 200
    have f2 : (pairsL (secAt d.Frame 0)).foldl (fun (z : Int) p => max z (liftAt d (toS p))) 0 = ((pairsL (secAt d.Frame 0)).map fun p => liftAt d (toS p)).foldl max 0 := foldl_map' (fun p => liftAt d (toS p)) (fun (s : Int) x => max s x) (pairsL (secAt d.Frame 0)) 0
    have g1 := foldl_min (m := 0) (a := 0) ((pairsL (secAt d.Frame 0)).map fun p => liftAt d (toS p)) 200
    have g2 := foldl_max (m := 0) (a := 0) ((pairsL (secAt d.Frame 0)).map fun p => liftAt d (toS p)) 0
    have hmem : ∀ x ∈ sidesL (secAt d.Frame 0), liftAt d x ∈ (pairsL (secAt d.Frame 0)).map fun p => liftAt d (toS p) := fun x hx => List.mem_map.2 ⟨toP x, List.mem_map.2 ⟨x, hx, rfl⟩, rfl⟩
    have hmem2 : ∀ y ∈ (pairsL (secAt d.Frame 0)).map fun p => liftAt d (toS p), (liftS d).Low ≤ y ∧ y ≤ (liftS d).High := fun y hy => by
      obtain ⟨p, hp, rfl⟩ := List.mem_map.1 hy
      obtain ⟨x, hx, rfl⟩ := List.mem_map.1 hp
      exact l1 x hx
    have m1 := g1.1 _ (List.mem_cons_of_mem _ (hmem a ha))
    have m2 := g2.1 _ (List.mem_cons_of_mem _ (hmem b hb))
    have r1 : (pairsL (secAt d.Frame 0)).foldl (fun (z : Int) p => min z (liftAt d (toS p))) 200 = (liftS d).Low := by
      rw [f1]
      have := g1.2
      rcases List.mem_cons.1 this with h | h
      · omega
      · have := (hmem2 _ h).1; omega
    have r2 : (pairsL (secAt d.Frame 0)).foldl (fun (z : Int) p => max z (liftAt d (toS p))) 0 = (liftS d).High := by
      rw [f2]
      have := g2.2
      rcases List.mem_cons.1 this with h | h
      · omega
      · have := (hmem2 _ h).2; omega
    simp only [r1, r2, Option.bind_some]
  · simp only [F_ref05_lift_s1, lt_nat, hi, decide_true, if_true, geti_nat, hx, Option.bind_some, p_LiftOf hn hd (pairs_ok hn hs (List.mem_of_getElem? hx)), w64_nat (show i ≤ 4611686018427387904 by rw [pairs_len hn] at hi; omega)]
  · simp [F_ref05_lift_s1]
theorem p_Load05 {d : Canopy} (hd : DOk d) {g : Gust} (hg : GOk d.Ribs.length g) {l : Int} (hl : 0 ≤ l ∧ l ≤ 200) {i : Nat} (hi : i < d.Ribs.length) : F_ref05_Load n d g l (i : Int) = some (loadS l d.Shares g i) := by
  have := p_load hn (b := ⟨l, d.Ribs.map (·.Low), d.Shares⟩) ⟨by simpa using hd.r, by simpa using hd.s, hl, hd.sh⟩ (g := g) (by simpa using hg) (i := i) (by simpa using hi)
  simp only [F_gusts_blown_load] at this
  simp only [F_ref05_Load]
  rw [← hd.s]
  exact this
end
end Go.Proofs.YtcipdblhopffbaaGreat
end
section
namespace Go.Proofs.YtcipdblhopffbaaGreat
open Go Go.RowKit Go.Dec
set_option linter.unusedVariables false
def lst {α : Type} (N : Nat) (f : Nat → α) : List α := (List.range N).map f
theorem lst_len {α : Type} (N : Nat) (f : Nat → α) : (lst N f).length = N := by simp [lst]
theorem lst_get {α : Type} {N : Nat} (f : Nat → α) {i : Nat} (h : i < N) : (lst N f)[i]? = some (f i) := by simp [lst, h]
def part {α : Type} (N i : Nat) (f g : Nat → α) : List α := lst N fun j => if j < i then f j else g j
theorem part_zero {α : Type} (N : Nat) (f g : Nat → α) : part N 0 f g = lst N g := by simp [part]
theorem part_all {α : Type} (N : Nat) (f g : Nat → α) : part N N f g = lst N f := by
  unfold part lst
  refine List.map_congr_left fun j hj => ?_
  rw [if_pos (List.mem_range.1 hj)]
theorem part_get {α : Type} {N i : Nat} (f g : Nat → α) (h : i < N) : (part N i f g)[i]? = some (g i) := by
  unfold part; rw [lst_get _ h]; simp
theorem part_set {α : Type} {N i : Nat} (f g : Nat → α) (h : i < N) {y : α} (hy : y = f i) : setx (part N i f g) (i : Int) y = part N (i + 1) f g := by
  subst hy
  unfold setx part lst
  refine List.ext_getElem (by simp) fun j h1 h2 => ?_
  simp only [List.getElem_set, List.getElem_map, List.getElem_range, Int.toNat_natCast]
  by_cases hij : i = j
  · subst hij; simp
  · rw [if_neg hij]
    by_cases hj : j < i
    · rw [if_pos hj, if_pos (by omega)]
    · rw [if_neg hj, if_neg (by omega)]
theorem part_skip {α : Type} {N i : Nat} (f g : Nat → α) (h : f i = g i) : part N i f g = part N (i + 1) f g := by
  unfold part lst
  refine List.map_congr_left fun j hj => ?_
  by_cases hij : j = i
  · subst hij; simp [h]
  · by_cases hj : j < i
    · rw [if_pos hj, if_pos (by omega)]
    · rw [if_neg hj, if_neg (by omega)]
theorem lst_repl {α : Type} (N : Nat) (x : α) : List.replicate N x = lst N fun _ => x := by
  refine List.ext_getElem (by simp [lst]) fun j h1 h2 => by simp [lst]
theorem idx_fwd {N i k : Nat} (hN : N ≤ 10) (hi : i < N) (h1 : 1 ≤ k) (h2 : k < N) : (w64 (((w64 ((i : Int) + w64 ((k : Int) * 1))).tmod (N : Int)) + (N : Int))).tmod (N : Int) = (((i + k * 1) % N : Nat) : Int) := by
  rw [Int.mul_one, w64_id (n := (k : Int)) (by omega) (by omega), w64_id (n := (i : Int) + k) (by omega) (by omega)]
  have e1 : (i : Int) + (k : Int) = ((i + k : Nat) : Int) := by omega
  have := Nat.mod_lt (i + k) (show 0 < N by omega)
  rw [e1, tmod_nat, w64_id (by omega) (by omega)]
  have e2 : (((i + k) % N : Nat) : Int) + (N : Int) = (((i + k) % N + N : Nat) : Int) := by omega
  rw [e2, tmod_nat, Nat.add_mod_right, Nat.mod_mod, Nat.mul_one]
theorem idx_bwd {N i k : Nat} (hN : N ≤ 10) (hi : i < N) (h1 : 1 ≤ k) (h2 : k < N) : (w64 (((w64 ((i : Int) + w64 ((k : Int) * (-1)))).tmod (N : Int)) + (N : Int))).tmod (N : Int) = (((i + k * (N - 1)) % N : Nat) : Int) := by
  rw [back_mod hi (by omega)]
  have e0 : (k : Int) * (-1) = -(k : Int) := by omega
  rw [e0, w64_id (n := -(k : Int)) (by omega) (by omega), w64_id (n := (i : Int) + -(k : Int)) (by omega) (by omega)]
  by_cases h : k ≤ i
  · have e1 : (i : Int) + -(k : Int) = ((i - k : Nat) : Int) := by omega
    have hm : (i - k) % N = i - k := Nat.mod_eq_of_lt (by omega)
    rw [e1, tmod_nat, hm, w64_id (by omega) (by omega)]
    have e2 : ((i - k : Nat) : Int) + (N : Int) = ((i + N - k : Nat) : Int) := by omega
    rw [e2, tmod_nat]
  · have e1 : (i : Int) + -(k : Int) = -((k - i : Nat) : Int) := by omega
    have hm : (k - i) % N = k - i := Nat.mod_eq_of_lt (by omega)
    rw [e1, Int.neg_tmod, tmod_nat, hm, w64_id (by omega) (by omega)]
    have e2 : -((k - i : Nat) : Int) + (N : Int) = ((i + N - k : Nat) : Int) := by omega
    rw [e2, tmod_nat]
section
variable {n : Nat} (hn : 100000000 ≤ n)
include hn
theorem side_walk {N : Nat} (hN : 3 ≤ N ∧ N ≤ 10) {L : Nat → Int} (hL : LOk L N) (p : Nat → Bool) {i st : Nat} {step : Int} (hi : i < N) (hidx : ∀ k : Nat, 1 ≤ k → k < N → (w64 (((w64 ((i : Int) + w64 ((k : Int) * step))).tmod (N : Int)) + (N : Int))).tmod (N : Int) = (((i + k * st) % N : Nat) : Int)) :
    F_ref05_side n (lst N L) (lst N p) i step = some (sideS L p (path N i st)) := by
  have key : ∀ (m k : Nat) (a : Int) (f : Nat), k + m = N → 1 ≤ k → 0 ≤ a → a ≤ 20000 * k → m < f →
      ∃ r, loopO f (F_ref05_side_s1 n (lst N L) (lst N p) i step) (a, (k : Int)) = some r ∧ (match r with | .inl o => some o | .inr s => some s) = some (a + sideS L p ((List.range' k m).map fun k => (i + k * st) % N)) := by
    intro m
    induction m with
    | zero =>
      intro k a f hk h1 h2 h3 hf
      refine ⟨.inr a, loop_done ?_ hf, by simp [sideS_nil]⟩
      have : k = N := by omega
      subst this
      simp [F_ref05_side_s1, lst_len]
    | succ m ih =>
      intro k a f hk h1 h2 h3 hf
      obtain ⟨f', rfl⟩ : ∃ z, f = z + 1 := ⟨f - 1, by omega⟩
      have hkN : k < N := by omega
      have hlt : (i + k * st) % N < N := Nat.mod_lt _ (by omega)
      have hl := hL _ hlt
      rw [List.range'_succ, List.map_cons, sideS_cons, loopO_succ]
      simp only [F_ref05_side_s1, lst_len, lt_nat, hkN, decide_true, if_true, nz_nat (show 0 < N by omega), Option.bind_some, hidx k h1 hkN, geti_nat, lst_get L hlt, lst_get p hlt]
      cases hp : p ((i + k * st) % N)
      · exact ⟨.inl a, by simp, by simp⟩
      · have ha : w64 (a + L ((i + k * st) % N)) = a + L ((i + k * st) % N) := w64_id (by omega) (by omega)
        obtain ⟨r, e1, e2⟩ := ih (k + 1) (a + L ((i + k * st) % N)) f' (by omega) (by omega) (by omega) (by push_cast; omega) (by omega)
        refine ⟨r, ?_, ?_⟩
        · simp only [Bool.not_true, Bool.false_eq_true, if_false, ha, w64_nat (show k ≤ 4611686018427387904 by omega)]
          exact e1
        · rw [e2]; simp only [if_true, Option.some.injEq]; omega
  obtain ⟨r, e1, e2⟩ := key (N - 1) 1 0 n (by omega) (by omega) (by omega) (by omega) (by omega)
  unfold F_ref05_side
  rw [show ((1 : Nat) : Int) = 1 from rfl] at e1
  rw [e1]
  simp only [Option.bind_some]
  refine Eq.trans ?_ (e2.trans (by simp [path]))
  cases r <;> rfl
theorem p_side1 {N : Nat} (hN : 3 ≤ N ∧ N ≤ 10) {L : Nat → Int} (hL : LOk L N) (p : Nat → Bool) {i : Nat} (hi : i < N) : F_ref05_side n (lst N L) (lst N p) i 1 = some (sideS L p (path N i 1)) :=
  side_walk hn hN hL p hi fun k h1 h2 => idx_fwd hN.2 hi h1 h2
theorem p_sideB {N : Nat} (hN : 3 ≤ N ∧ N ≤ 10) {L : Nat → Int} (hL : LOk L N) (p : Nat → Bool) {i : Nat} (hi : i < N) : F_ref05_side n (lst N L) (lst N p) i (-1) = some (sideS L p (path N i (N - 1))) :=
  side_walk hn hN hL p hi fun k h1 h2 => idx_bwd hN.2 hi h1 h2
end
def rnd (L S : Nat → Int) (N : Nat) : Nat → Nat → Int
  | 0, _ => 0
  | r + 1, j => if (!G L S N r j && decide (S j < bearsS L (G L S N r) N j)) = true then ((r + 1 : Nat) : Int) else rnd L S N r j
theorem G_succ {L S : Nat → Int} {N r j : Nat} (hj : j < N) : G L S N (r + 1) j = (G L S N r j || decide (S j < bearsS L (G L S N r) N j)) := by
  show stepS L S N (G L S N r) j = _
  simp [stepS, hj]
theorem rnd_spec {L S : Nat → Int} {N j : Nat} (hj : j < N) : ∀ r, (G L S N r j = false → rnd L S N r j = 0) ∧ (G L S N r j = true → 1 ≤ rnd L S N r j ∧ rnd L S N r j ≤ r)
  | 0 => by simp [G, rnd]
  | r + 1 => by
    obtain ⟨h1, h2⟩ := rnd_spec (L := L) (S := S) hj r
    rw [G_succ hj, rnd]
    cases hg : G L S N r j
    · cases hc : decide (S j < bearsS L (G L S N r) N j)
      · simp [h1 hg]
      · simp; omega
    · have := h2 hg
      simp; omega
theorem rnd_wi {L S : Nat → Int} {N j : Nat} (hj : j < N) : wi (rnd L S N N j) 1 N = G L S N N j := by
  have := rnd_spec (L := L) (S := S) hj N
  cases hg : G L S N N j
  · rw [this.1 hg]; simp [wi]
  · have := this.2 hg
    simp [wi]; omega
theorem none_G {L S : Nat → Int} {N : Nat} (hN : 0 < N) : noneP N (G L S N N) = noneP N (G L S N 1) := by
  rw [Bool.eq_iff_iff, noneP_iff, noneP_iff]
  constructor
  · intro h i hi
    cases hg : G L S N 1 i
    · rfl
    · have := G_le (show 1 ≤ N by omega) hg
      rw [h i hi] at this; simp at this
  · intro h i hi
    have hf : fixd L S N 0 := fun j hj => h j hj
    rw [(fixd_le hN (Nat.zero_le N) hf).2 i hi]; rfl
theorem listS_congr {N : Nat} {p q : Nat → Bool} (h : ∀ j, j < N → p j = q j) : listS N p = listS N q := by
  unfold listS
  congr 1
  exact List.filter_congr fun j hj => h j (List.mem_range.1 hj)
theorem listS_none {N : Nat} {p : Nat → Bool} : (decide (0 < ((listS N p).length : Int))) = !noneP N p := by
  rw [Bool.eq_iff_iff]
  simp only [decide_eq_true_eq, Bool.not_eq_true', listS, List.length_map]
  constructor
  · intro h
    obtain ⟨j, hj⟩ := List.exists_mem_of_length_pos (show 0 < ((List.range N).filter p).length by omega)
    have := List.mem_filter.1 hj
    cases hc : noneP N p
    · rfl
    · have h2 := noneP_iff.1 hc j (List.mem_range.1 this.1)
      rw [this.2] at h2; simp at h2
  · intro h
    have : 0 < ((List.range N).filter p).length := by
      refine List.length_pos_iff_exists_mem.2 (Classical.byContradiction fun hc => ?_)
      have : noneP N p = true := noneP_iff.2 fun j hj => by
        cases hp : p j
        · rfl
        · exact absurd ⟨j, List.mem_filter.2 ⟨List.mem_range.2 hj, hp⟩⟩ hc
      rw [h] at this; simp at this
    omega
/-- a truth's strengths, by rib -/
def trS (t : ref05_Truth) (i : Nat) : Int := (t.Strengths[i]?).getD 0
structure TOk (N : Nat) (t : ref05_Truth) : Prop where
  l : 0 ≤ t.Lift ∧ t.Lift ≤ 200
  s : t.Strengths.length = N
def ldT (d : Canopy) (t : ref05_Truth) (g : Gust) : Nat → Int := loadS t.Lift d.Shares g
theorem ldT_ok {d : Canopy} (hd : DOk d) {g : Gust} (hg : GOk d.Ribs.length g) {t : ref05_Truth} (ht : TOk d.Ribs.length t) : LOk (ldT d t g) d.Ribs.length := fun i _ => by
  have := load_in ht.l hd.sh hg.f (sh_pos hd) i
  unfold ldT; omega
section
variable {n : Nat} (hn : 100000000 ≤ n)
include hn
theorem p_Rounds {d : Canopy} (hd : DOk d) {g : Gust} (hg : GOk d.Ribs.length g) {t : ref05_Truth} (ht : TOk d.Ribs.length t) : F_ref05_Rounds n d g t = some (lst d.Ribs.length (rnd (ldT d t g) (trS t) d.Ribs.length d.Ribs.length)) := by
  have hr := hd.r
  have hL := ldT_ok hd hg ht
  have hmk : mkn (d.Ribs.length : Int) = some () := by unfold mkn; rw [if_pos (by omega)]
  simp only [F_ref05_Rounds, hmk, Option.bind_some, Int.toNat_natCast, lst_repl]
  -- the loads
  have k1 := loop_foldl (step := F_ref05_Rounds_s1 n d g t) (List.range d.Ribs.length) (fun i (_ : Unit) => ((i : Int), part d.Ribs.length i (ldT d t g) (fun _ => 0))) (fun b _ => b) (fun _ => lst d.Ribs.length (ldT d t g)) (n := n) () (fun i x b hx hi => by
      simp only [List.length_range] at hi
      simp only [F_ref05_Rounds_s1, lt_nat, hi, decide_true, if_true, p_Load05 hn hd hg ht.l hi, Option.bind_some, geti_nat, part_get _ _ hi, w64_nat (show i ≤ 4611686018427387904 by omega)]
      rw [part_set _ _ hi (show loadS t.Lift d.Shares g i = ldT d t g i from rfl)]) (fun b => by
      simp only [List.length_range, part_all]
      simp [F_ref05_Rounds_s1]) (by simp; omega)
  simp only [part_zero, show ((0 : Nat) : Int) = 0 from rfl] at k1
  rw [k1]
  simp only [Option.bind_some]
  -- one round
  have inner : ∀ (r : Nat), r < d.Ribs.length → loopO n (F_ref05_Rounds_s3 n d t (lst d.Ribs.length (ldT d t g)) (lst d.Ribs.length (G (ldT d t g) (trS t) d.Ribs.length r)) ((r + 1 : Nat) : Int)) (0, lst d.Ribs.length (G (ldT d t g) (trS t) d.Ribs.length r), lst d.Ribs.length (rnd (ldT d t g) (trS t) d.Ribs.length r)) = some (lst d.Ribs.length (G (ldT d t g) (trS t) d.Ribs.length (r + 1)), lst d.Ribs.length (rnd (ldT d t g) (trS t) d.Ribs.length (r + 1))) := by
    intro r hrN
    have k2 := loop_foldl (step := F_ref05_Rounds_s3 n d t (lst d.Ribs.length (ldT d t g)) (lst d.Ribs.length (G (ldT d t g) (trS t) d.Ribs.length r)) ((r + 1 : Nat) : Int)) (List.range d.Ribs.length) (fun i (_ : Unit) => ((i : Int), part d.Ribs.length i (G (ldT d t g) (trS t) d.Ribs.length (r + 1)) (G (ldT d t g) (trS t) d.Ribs.length r), part d.Ribs.length i (rnd (ldT d t g) (trS t) d.Ribs.length (r + 1)) (rnd (ldT d t g) (trS t) d.Ribs.length r))) (fun b _ => b) (fun _ => (lst d.Ribs.length (G (ldT d t g) (trS t) d.Ribs.length (r + 1)), lst d.Ribs.length (rnd (ldT d t g) (trS t) d.Ribs.length (r + 1)))) (n := n) () (fun i x b hx hi => by
      simp only [List.length_range] at hi
      have a1 := side_in hL (by omega) hr.2 (G (ldT d t g) (trS t) d.Ribs.length r) i 1
      have a2 := side_in hL (by omega) hr.2 (G (ldT d t g) (trS t) d.Ribs.length r) i (d.Ribs.length - 1)
      have t1 := tdiv2_in a1.1 a1.2
      have t2 := tdiv2_in a2.1 a2.2
      have hl := hL i hi
      have hst : t.Strengths[i]? = some (trS t i) := by have := ht.s; simp [trS, show i < t.Strengths.length by omega]
      have hsum : w64 (w64 (ldT d t g i + w64 ((sideS (ldT d t g) (G (ldT d t g) (trS t) d.Ribs.length r) (path d.Ribs.length i (d.Ribs.length - 1))).tdiv 2)) + w64 ((sideS (ldT d t g) (G (ldT d t g) (trS t) d.Ribs.length r) (path d.Ribs.length i 1)).tdiv 2)) = bearsS (ldT d t g) (G (ldT d t g) (trS t) d.Ribs.length r) d.Ribs.length i := by
        rw [w64_id (n := (sideS _ _ (path _ _ (_ - 1))).tdiv 2) (by omega) (by omega), w64_id (n := (sideS _ _ (path _ _ 1)).tdiv 2) (by omega) (by omega), w64_id (n := ldT d t g i + _) (by omega) (by omega), w64_id (by omega) (by omega)]
        unfold bearsS; omega
      have hG := G_succ (L := ldT d t g) (S := trS t) (r := r) hi
      have hR : rnd (ldT d t g) (trS t) d.Ribs.length (r + 1) i = if (!G (ldT d t g) (trS t) d.Ribs.length r i && decide (trS t i < bearsS (ldT d t g) (G (ldT d t g) (trS t) d.Ribs.length r) d.Ribs.length i)) = true then ((r + 1 : Nat) : Int) else rnd (ldT d t g) (trS t) d.Ribs.length r i := rfl
      simp only [F_ref05_Rounds_s3, lt_nat, hi, decide_true, if_true, geti_nat, lst_get _ hi, Option.bind_some, p_side1 hn hr hL _ hi, p_sideB hn hr hL _ hi, hst, hsum, part_get _ _ hi, w64_nat (show i ≤ 4611686018427387904 by omega)]
      cases hg : G (ldT d t g) (trS t) d.Ribs.length r i
      · simp only [Bool.not_false, if_true, Option.bind_some]
        cases hc : decide (trS t i < bearsS (ldT d t g) (G (ldT d t g) (trS t) d.Ribs.length r) d.Ribs.length i)
        · simp only [Bool.false_eq_true, if_false, Option.bind_some]
          rw [part_skip _ _ (show G (ldT d t g) (trS t) d.Ribs.length (r + 1) i = G (ldT d t g) (trS t) d.Ribs.length r i by rw [hG, hc]; simp), part_skip _ _ (show rnd (ldT d t g) (trS t) d.Ribs.length (r + 1) i = rnd (ldT d t g) (trS t) d.Ribs.length r i by rw [hR, hc]; simp)]
        · simp only [if_true, Option.bind_some]
          rw [part_set _ _ hi (show true = G (ldT d t g) (trS t) d.Ribs.length (r + 1) i by rw [hG, hc]; simp), part_set _ _ hi (show ((r + 1 : Nat) : Int) = rnd (ldT d t g) (trS t) d.Ribs.length (r + 1) i by rw [hR, hc, hg]; simp)]
      · simp only [Bool.not_true, Bool.false_eq_true, if_false, Option.bind_some]
        rw [part_skip _ _ (show G (ldT d t g) (trS t) d.Ribs.length (r + 1) i = G (ldT d t g) (trS t) d.Ribs.length r i by rw [hG, hg]; simp), part_skip _ _ (show rnd (ldT d t g) (trS t) d.Ribs.length (r + 1) i = rnd (ldT d t g) (trS t) d.Ribs.length r i by rw [hR, hg]; simp)]) (fun b => by
      simp only [List.length_range, part_all]
      simp [F_ref05_Rounds_s3]) (by simp; omega)
    simp only [part_zero, show ((0 : Nat) : Int) = 0 from rfl] at k2
    exact k2
  have k3 := loop_foldl (step := F_ref05_Rounds_s2 n d t (lst d.Ribs.length (ldT d t g))) (List.range d.Ribs.length) (fun r (_ : Unit) => (lst d.Ribs.length (G (ldT d t g) (trS t) d.Ribs.length r), ((r + 1 : Nat) : Int), lst d.Ribs.length (rnd (ldT d t g) (trS t) d.Ribs.length r))) (fun b _ => b) (fun _ => lst d.Ribs.length (rnd (ldT d t g) (trS t) d.Ribs.length d.Ribs.length)) (n := n) () (fun r x b hx hi => by
      simp only [List.length_range] at hi
      have hle : decide (((r + 1 : Nat) : Int) ≤ (d.Ribs.length : Int)) = true := by simp; omega
      simp only [F_ref05_Rounds_s2, hle, if_true, List.nil_append]
      rw [lim_ok (by rw [lst_len]; omega)]
      simp only [Option.bind_some, inner r hi]
      rw [show w64 (((r + 1 : Nat) : Int) + 1) = ((r + 1 + 1 : Nat) : Int) from w64_nat (by omega)]) (fun b => by
      have hle : decide (((d.Ribs.length + 1 : Nat) : Int) ≤ (d.Ribs.length : Int)) = false := by simp; omega
      simp only [List.length_range, F_ref05_Rounds_s2, hle, Bool.false_eq_true, if_false]) (by simp; omega)
  have e0 : lst d.Ribs.length (G (ldT d t g) (trS t) d.Ribs.length 0) = lst d.Ribs.length fun _ => false := rfl
  have e1 : lst d.Ribs.length (rnd (ldT d t g) (trS t) d.Ribs.length 0) = lst d.Ribs.length fun _ => (0 : Int) := rfl
  simp only [Nat.zero_add, show ((1 : Nat) : Int) = 1 from rfl, e0, e1] at k3
  rw [k3]
  rfl
theorem p_went {N : Nat} (hN : N ≤ 10) (R : Nat → Int) (last : Int) : F_ref05_went n (lst N R) last = some (listS N fun j => wi (R j) 1 last) := by
  have kk := loop_fold (step := F_ref05_went_s1 n (lst N R) last) (List.range N) (fun i (z : List Int) => ((i : Int), z)) (fun z i => if wi (R i) 1 last = true then z ++ [(i : Int)] else z) (fun z => z) (fun i z => z.length ≤ i) (n := n) [] (by simp) (fun i x z hx hz => by
    obtain ⟨hi, hxi⟩ := List.getElem?_eq_some_iff.1 hx
    simp at hi hxi
    subst hxi
    refine ⟨?_, ?_⟩
    · simp only [F_ref05_went_s1, lst_len, lt_nat, hi, decide_true, if_true, geti_nat, lst_get _ hi, Option.bind_some, p_within05, w64_nat (show i ≤ 4611686018427387904 by omega)]
      split
      · rw [lim_ok (by simp; omega)]; rfl
      · rfl
    · split
      · rw [List.length_append]; simp; omega
      · omega) (fun z hz => by simp [F_ref05_went_s1, lst_len]) (by simp; omega)
  have k1 := kk.1
  rw [show ((0 : Nat) : Int) = 0 from rfl] at k1
  unfold F_ref05_went
  rw [k1]
  have e : ∀ (l : List Nat) (out : List Int), l.foldl (fun z i => if wi (R i) 1 last = true then z ++ [(i : Int)] else z) out = out ++ ((l.filter fun j => wi (R j) 1 last).map fun i : Nat => (i : Int)) := by
    intro l
    induction l with
    | nil => simp
    | cons a l ih =>
      intro out
      rw [List.foldl_cons, ih, List.filter_cons]
      split <;> simp
  rw [e]
  rfl
end
end Go.Proofs.YtcipdblhopffbaaGreat
end
section
namespace Go.Proofs.YtcipdblhopffbaaGreat
open Go Go.RowKit Go.Dec
set_option linter.unusedVariables false
def fewT (d : Canopy) : ref05_Truth := ⟨(liftS d).Low, d.Ribs.map (·.High)⟩
def manyT (d : Canopy) : ref05_Truth := ⟨(liftS d).High, d.Ribs.map (·.Low)⟩
theorem few_ok {d : Canopy} (hd : DOk d) : TOk d.Ribs.length (fewT d) := by
  have := lift_in hd
  exact ⟨by simp only [fewT]; omega, by simp [fewT]⟩
theorem many_ok {d : Canopy} (hd : DOk d) : TOk d.Ribs.length (manyT d) := by
  have := lift_in hd
  exact ⟨by simp only [manyT]; omega, by simp [manyT]⟩
def standIn (d : Canopy) (l : List Gust) (t : ref05_Truth) : Bool := l.all fun g => noneP d.Ribs.length (G (ldT d t g) (trS t) d.Ribs.length d.Ribs.length)
theorem stand_many {d : Canopy} (hd : DOk d) (l : List Gust) : standIn d l (manyT d) = l.all fun g => noneP d.Ribs.length (firstP d g) := by
  unfold standIn
  congr 1; funext g
  exact none_G (by have := hd.r; omega)
theorem stand_few {d : Canopy} (hd : DOk d) (l : List Gust) : standIn d l (fewT d) = l.all fun g => noneP d.Ribs.length (firstB d g) := by
  unfold standIn
  congr 1; funext g
  exact none_G (by have := hd.r; omega)
section
variable {n : Nat} (hn : 100000000 ≤ n)
include hn
theorem p_ends05 {d : Canopy} (hd : DOk d) : F_ref05_ends n d = some (fewT d, manyT d) := by
  have hr := hd.r
  have kk := loop_fold (step := F_ref05_ends_s1 n d) d.Ribs (fun i (z : List Int × List Int) => ((i : Int), z.1, z.2)) (fun z s => (z.1 ++ [s.High], z.2 ++ [s.Low])) (fun z => (z.1, z.2)) (fun i z => z.1.length = i ∧ z.2.length = i) (n := n) ([], []) ⟨rfl, rfl⟩ (fun i x z hx hz => ?_) (fun z hz => ?_) (by omega)
  · have k1 := kk.1
    rw [show ((0 : Nat) : Int) = 0 from rfl] at k1
    simp only at k1
    simp only [F_ref05_ends, p_lift05 hn hd, Option.bind_some, k1, fewT, manyT]
    have e := foldl_pair (fun (z : List Int) (s : Span) => z ++ [s.High]) (fun (z : List Int) (s : Span) => z ++ [s.Low]) d.Ribs [] []
    rw [e, foldl_append_map, foldl_append_map]
    rfl
  · have hi := (List.getElem?_eq_some_iff.1 hx).1
    refine ⟨?_, ?_⟩
    · simp only [F_ref05_ends_s1, lt_nat, hi, decide_true, if_true, geti_nat, hx, Option.bind_some]
      rw [lim_ok (by simp; omega), lim_ok (by simp; omega)]
      simp only [Option.bind_some, w64_nat (show i ≤ 4611686018427387904 by omega)]
    · simp [hz.1, hz.2]
  · simp [F_ref05_ends_s1]
theorem p_StandsIn {d : Canopy} (hd : DOk d) {l : List Gust} (hl : l.length ≤ 1000) (hg : ∀ g ∈ l, GOk d.Ribs.length g) {t : ref05_Truth} (ht : TOk d.Ribs.length t) : F_ref05_StandsIn n d l t = some (standIn d l t) := by
  have hr := hd.r
  unfold F_ref05_StandsIn
  have kk := loop_all_l (step := F_ref05_StandsIn_s1 n d l t) l (fun g => noneP d.Ribs.length (G (ldT d t g) (trS t) d.Ribs.length d.Ribs.length)) false (n := n) (by omega) (fun i x hx hi => ?_) ?_ (by omega)
  · rw [kk]
    unfold standIn
    cases l.all fun g => noneP d.Ribs.length (G (ldT d t g) (trS t) d.Ribs.length d.Ribs.length) <;> rfl
  · have hgx := hg x (List.mem_of_getElem? hx)
    have e1 : listS d.Ribs.length (fun j => wi (rnd (ldT d t x) (trS t) d.Ribs.length d.Ribs.length j) 1 d.Ribs.length) = listS d.Ribs.length (G (ldT d t x) (trS t) d.Ribs.length d.Ribs.length) := listS_congr fun j hj => rnd_wi hj
    simp only [F_ref05_StandsIn_s1, lt_nat, hi, decide_true, if_true, geti_nat, hx, Option.bind_some, p_Rounds hn hd hgx ht, p_went hn hr.2, e1, listS_none, w64_nat (show i ≤ 4611686018427387904 by omega)]
    cases noneP d.Ribs.length (G (ldT d t x) (trS t) d.Ribs.length d.Ribs.length) <;> rfl
  · simp [F_ref05_StandsIn_s1]
theorem p_Stands05 {d : Canopy} (hs : Small d) {l : List Gust} (hl : l.length ≤ 1000) : F_ref05_Stands n d l = some (standsT d l) := by
  simp only [F_ref05_Stands, p_check05 hn hs hl, Option.bind_some, standsT]
  by_cases h : askG d l = 0
  · obtain ⟨hd, _, hg⟩ := askG_ok.1 h
    simp only [h, bne_self_eq_false, Bool.false_eq_true, if_false, if_true, p_ends05 hn hd, Option.bind_some, p_StandsIn hn hd hl hg (many_ok hd), p_StandsIn hn hd hl hg (few_ok hd), stand_many hd, stand_few hd, standsI]
    cases (l.all fun g => noneP d.Ribs.length (firstP d g))
    · cases (l.all fun g => noneP d.Ribs.length (firstB d g)) <;> rfl
    · rfl
  · simp [h]
theorem p_Copy05 {d : Canopy} (hs : Small d) : F_ref05_Copy n d = some d := by
  simp only [F_ref05_Copy, p_Copy01 hn hs.1, Option.bind_some, List.nil_append]
  rw [lim_ok (by have := hs.2.1; omega), lim_ok (by have := hs.2.2; omega)]
  rfl
theorem p_Far (d : Canopy) : F_law05_Far n d = some true ∨ (F_law05_Far n d = some false ∧ Small d ∧ d.Frame.Sections.length ≤ 20 ∧ d.Ribs.length ≤ 40 ∧ d.Shares.length ≤ 40) := by
  have _hn := hn
  unfold F_law05_Far
  by_cases h1 : 20 < (d.Frame.Sections.length : Int)
  · simp [h1]
  · by_cases h2 : 40 < (d.Ribs.length : Int)
    · simp [h2]
    · by_cases h3 : 40 < (d.Shares.length : Int)
      · simp [h3]
      · right
        refine ⟨by simp [h1, h2, h3], ⟨by omega, by omega, by omega⟩, by omega, by omega, by omega⟩
end
def exD : Canopy := ⟨⟨[⟨⟨50, 52⟩, ⟨60, 60⟩, 0, ⟨1, 1⟩⟩, ⟨⟨40, 40⟩, ⟨45, 46⟩, 5, ⟨1, 2⟩⟩], 20, 100, ⟨1, 20⟩, 300, 351⟩, [⟨100, 110⟩, ⟨60, 60⟩, ⟨50, 55⟩, ⟨40, 40⟩, ⟨50, 50⟩, ⟨60, 60⟩], [10, 6, 3, 1, 3, 6]⟩
end Go.Proofs.YtcipdblhopffbaaGreat
end
section
namespace Go.Proofs.YtcipdblhopffbaaGreat
open Go Go.RowKit Go.Dec
set_option linter.unusedVariables false
theorem setx_get {α : Type} {l : List α} {i : Nat} {y : α} (h : i < l.length) (j : Nat) : (setx l (i : Int) y)[j]? = if j = i then some y else l[j]? := by
  unfold setx
  rw [Int.toNat_natCast, List.getElem?_set]
  by_cases hij : i = j
  · subst hij; simp [h]
  · rw [if_neg hij, if_neg (fun e => hij e.symm)]
/-- domes that differ in their ribs alone -/
structure Same (d o : Canopy) : Prop where
  f : o.Frame = d.Frame
  s : o.Shares = d.Shares
  n : o.Ribs.length = d.Ribs.length
theorem Same.lift {d o : Canopy} (h : Same d o) : liftS o = liftS d := by unfold liftS; rw [h.f]
theorem Same.ldB {d o : Canopy} (h : Same d o) (g : Gust) : ldB o g = ldB d g := by unfold Go.Proofs.YtcipdblhopffbaaGreat.ldB; rw [h.lift, h.s]
theorem Same.ldW {d o : Canopy} (h : Same d o) (g : Gust) : ldW o g = ldW d g := by unfold Go.Proofs.YtcipdblhopffbaaGreat.ldW; rw [h.lift, h.s]
end Go.Proofs.YtcipdblhopffbaaGreat
end
section
namespace Go.Dec
def expand (m : Mp) : List (List Int) := m.flatMap fun p => List.replicate p.2.toNat p.1
/-- the map counts the list's members -/
structure RM (L : List (List Int)) (m : Mp) : Prop where
  srt : Srt m
  pos : ∀ p ∈ m, 0 < p.2
  perm : (expand m).Perm L
theorem mget_cons {p : List Int × Int} {r : Mp} {k : List Int} : mget (p :: r) k = if p.1 = k then p.2 else mget r k := by
  unfold mget
  rw [List.find?_cons]
  by_cases h : p.1 = k
  · have : (p.1 == k) = true := by simpa using h
    rw [this, if_pos h]
  · have : (p.1 == k) = false := by simpa using h
    rw [this, if_neg h]
theorem mget_nil {k : List Int} : mget [] k = 0 := rfl
theorem expand_cons (p : List Int × Int) (r : Mp) : expand (p :: r) = List.replicate p.2.toNat p.1 ++ expand r := by simp [expand]
theorem mget_nonneg {m : Mp} (hp : ∀ p ∈ m, 0 < p.2) (k : List Int) : 0 ≤ mget m k := by
  induction m with
  | nil => simp [mget_nil]
  | cons p r ih =>
    rw [mget_cons]
    split
    · have := hp p (List.mem_cons_self ..); omega
    · exact ih fun q hq => hp q (List.mem_cons_of_mem _ hq)
theorem expand_mput {k : List Int} {c : Int} (hc : 0 < c) : ∀ {m : Mp}, Srt m → (∀ p ∈ m, 0 < p.2) → (expand (mput m k (mget m k + c))).Perm (expand m ++ List.replicate c.toNat k)
  | [], _, _ => by simp [mput, mget_nil, expand]
  | p :: r, hs, hp => by
    obtain ⟨h1, h2⟩ := List.pairwise_cons.1 hs
    have hp' : ∀ q ∈ r, 0 < q.2 := fun q hq => hp q (List.mem_cons_of_mem _ hq)
    have hpp := hp p (List.mem_cons_self ..)
    rw [mget_cons]
    unfold mput
    by_cases e : p.1 = k
    · rw [if_pos e, if_pos (by simpa using e), expand_cons, expand_cons]
      simp only
      have e1 : (p.2 + c).toNat = p.2.toNat + c.toNat := by omega
      rw [e1, ← List.replicate_append_replicate, e]
      rw [List.append_assoc, List.append_assoc]
      exact List.Perm.append_left _ List.perm_append_comm
    · rw [if_neg e, if_neg (by simpa using e)]
      by_cases hl : klt k p.1 = true
      · rw [if_pos hl]
        have h0 : mget r k = 0 := mget_of_not fun q hq e2 => by
          have := klt_trans hl (h1 q hq)
          rw [e2, klt_irrefl] at this
          cases this
        rw [h0, expand_cons, Int.zero_add]
        exact List.perm_append_comm
      · rw [if_neg hl, expand_cons, expand_cons, List.append_assoc]
        exact List.Perm.append_left _ (expand_mput hc h2 hp')
theorem RM.nil : RM [] [] := ⟨List.Pairwise.nil, by simp, by simp [expand]⟩
theorem RM.perm' {L L' : List (List Int)} {m : Mp} (h : RM L m) (hp : L.Perm L') : RM L' m := ⟨h.srt, h.pos, h.perm.trans hp⟩
theorem RM.add {L : List (List Int)} {m : Mp} (h : RM L m) (k : List Int) {c : Int} (hc : 0 < c) : RM (L ++ List.replicate c.toNat k) (mput m k (mget m k + c)) := by
  refine ⟨srt_mput h.srt, fun p hp => ?_, (expand_mput hc h.srt h.pos).trans (h.perm.append_right _)⟩
  rcases (mem_mput h.srt).1 hp with rfl | ⟨hp, _⟩
  · have := mget_nonneg h.pos k; simp only; omega
  · exact h.pos p hp
theorem mget_count {k : List Int} : ∀ {m : Mp}, Srt m → (∀ p ∈ m, 0 < p.2) → mget m k = ((expand m).count k : Nat)
  | [], _, _ => by simp [mget_nil, expand]
  | p :: r, hs, hp => by
    obtain ⟨h1, h2⟩ := List.pairwise_cons.1 hs
    have hp' : ∀ q ∈ r, 0 < q.2 := fun q hq => hp q (List.mem_cons_of_mem _ hq)
    have hpp := hp p (List.mem_cons_self ..)
    rw [mget_cons, expand_cons, List.count_append, List.count_replicate]
    have ih := mget_count (k := k) h2 hp'
    by_cases e : p.1 = k
    · rw [if_pos e, if_pos (by simpa using e)]
      have h0 : mget r k = 0 := mget_of_not fun q hq e2 => by
        have := h1 q hq
        rw [e2, ← e, klt_irrefl] at this
        cases this
      omega
    · rw [if_neg e, if_neg (by simpa using e)]
      omega
theorem RM.get {L : List (List Int)} {m : Mp} (h : RM L m) (k : List Int) : mget m k = (L.count k : Nat) := by
  rw [mget_count h.srt h.pos, h.perm.count_eq]
theorem RM.mem {L : List (List Int)} {m : Mp} (h : RM L m) {p : List Int × Int} : p ∈ m ↔ p.2 = (L.count p.1 : Nat) ∧ p.1 ∈ L := by
  constructor
  · intro hp
    have h1 := mget_of_mem h.srt (k := p.1) (v := p.2) hp
    rw [h.get] at h1
    refine ⟨h1.symm, ?_⟩
    have := h.pos p hp
    exact List.count_pos_iff.1 (by omega)
  · rintro ⟨h1, h2⟩
    have h3 : 0 < L.count p.1 := List.count_pos_iff.2 h2
    have h4 := h.get p.1
    unfold mget at h4
    cases hf : m.find? (fun q => q.1 == p.1) with
    | none => rw [hf] at h4; simp only at h4; omega
    | some q =>
      rw [hf] at h4
      simp only at h4
      have h5 := List.find?_some hf
      have e : q = p := by
        have : q.1 = p.1 := by simpa using h5
        exact Prod.ext this (by omega)
      rw [← e]
      exact List.mem_of_find?_eq_some hf
theorem RM.uniq {L : List (List Int)} {m m' : Mp} (h : RM L m) (h' : RM L m') : m = m' := srt_ext h.srt h'.srt fun p => by rw [h.mem, h'.mem]
theorem RM.key {L : List (List Int)} {m : Mp} (h : RM L m) {x : List Int} : (∃ c, (x, c) ∈ m) ↔ x ∈ L :=
  ⟨fun ⟨_, hc⟩ => (h.mem.1 hc).2, fun hx => ⟨(L.count x : Nat), h.mem.2 ⟨rfl, hx⟩⟩⟩
theorem expand_length : ∀ {m : Mp}, (∀ p ∈ m, 0 < p.2) → ((expand m).length : Int) = (m.map (·.2)).sum
  | [], _ => by simp [expand]
  | p :: r, hp => by
    have ih := expand_length (m := r) fun q hq => hp q (List.mem_cons_of_mem _ hq)
    have hpp := hp p (List.mem_cons_self ..)
    rw [expand_cons, List.length_append, List.length_replicate, List.map_cons, List.sum_cons]
    omega
theorem RM.total {L : List (List Int)} {m : Mp} (h : RM L m) : (m.map (·.2)).sum = (L.length : Nat) := by
  rw [← expand_length h.pos, h.perm.length_eq]
theorem expand_filter (q : List Int → Bool) : ∀ (m : Mp), expand (m.filter fun p => q p.1) = (expand m).filter q
  | [] => by simp [expand]
  | p :: r => by
    rw [expand_cons, List.filter_append]
    cases hq : q p.1 with
    | true => rw [List.filter_cons_of_pos (p := fun p : List Int × Int => q p.1) hq, expand_cons, expand_filter q r, List.filter_replicate_of_pos hq]
    | false => rw [List.filter_cons_of_neg (p := fun p : List Int × Int => q p.1) (by simp [hq]), expand_filter q r, List.filter_replicate_of_neg (by simp [hq]), List.nil_append]
theorem RM.filter {L : List (List Int)} {m : Mp} (h : RM L m) (q : List Int → Bool) : RM (L.filter q) (m.filter fun p => q p.1) :=
  ⟨h.srt.filter _, fun p hp => h.pos p (List.mem_filter.1 hp).1, by rw [expand_filter]; exact h.perm.filter _⟩
def tally (L : List (List Int)) : Mp := L.foldl (fun m k => mput m k (mget m k + 1)) []
theorem tally_ok (L : List (List Int)) : RM L (tally L) := by
  have key : ∀ (L L0 : List (List Int)) (m : Mp), RM L0 m → RM (L0 ++ L) (L.foldl (fun m k => mput m k (mget m k + 1)) m) := by
    intro L
    induction L with
    | nil => intro L0 m h; simpa using h
    | cons k L ih =>
      intro L0 m h
      rw [List.foldl_cons]
      have := ih (L0 ++ [k]) _ (by simpa using h.add k (c := 1) (by omega))
      simpa using this
  have := key L [] [] RM.nil
  rw [List.nil_append] at this
  exact this
theorem RM.eq {L : List (List Int)} {m : Mp} (h : RM L m) : m = tally L := h.uniq (tally_ok L)
theorem RM.len0 {L : List (List Int)} {m : Mp} (h : RM L m) : m = [] ↔ L = [] := by
  constructor
  · rintro rfl
    have := h.perm.length_eq
    exact List.eq_nil_of_length_eq_zero (by simpa [expand] using this.symm)
  · rintro rfl
    cases m with
    | nil => rfl
    | cons p r => have := (h.mem (p := p)).1 (List.mem_cons_self ..); simp at this
theorem foldP_some {S : Type} {step : S → List Int × Int → Option S} (g : S → List Int × Int → S) {m : Mp} : ∀ (l : Mp) (s : S), (∀ x ∈ l, x ∈ m) → (∀ s x, x ∈ m → step s x = some (g s x)) → foldP step s l = some (l.foldl g s)
  | [], _, _, _ => rfl
  | x :: l, s, hl, h => by
    rw [foldP, h s x (hl x (List.mem_cons_self ..))]
    exact foldP_some g l _ (fun y hy => hl y (List.mem_cons_of_mem _ hy)) h
theorem foldl_perm {α β : Type} {g : β → α → β} (hg : ∀ b x y, g (g b x) y = g (g b y) x) {l m : List α} (h : l.Perm m) : ∀ b, l.foldl g b = m.foldl g b := by
  induction h with
  | nil => intro b; rfl
  | cons x _ ih => intro b; exact ih _
  | swap x y l => intro b; simp only [List.foldl_cons]; rw [hg]
  | trans _ _ ih1 ih2 => intro b; rw [ih1, ih2]
theorem permO_comm {S : Type} {step : S → List Int × Int → Option S} (g : S → List Int × Int → S) (hg : ∀ s x y, g (g s x) y = g (g s y) x) {m : Mp} (s : S) (h : ∀ s x, x ∈ m → step s x = some (g s x)) : permO step s m = some (m.foldl g s) :=
  permO_of fun l hl => by
    rw [foldP_some g l s (fun x hx => hl.mem_iff.1 hx) h]
    rw [foldl_perm hg hl s]
end Go.Dec
end
section
namespace Go.Proofs.YtcipdblhopffbaaGreat
open Go Go.RowKit Go.Dec
set_option linter.unusedVariables false
section
variable {n : Nat} (hn : 100000000 ≤ n)
include hn
theorem p_ContainsBlow (s : List Blow) (f : Blow → Option Bool) (p : Blow → Bool) (hf : ∀ x, x ∈ s → f x = some (p x)) (hs : s.length ≤ 1000) : F_slices_ContainsFunc___api_Blow_api_Blow_ n s f = some (s.any p) := by
  have : ∃ k, F_slices_IndexFunc___api_Blow_api_Blow_ n s f = some k ∧ decide (0 ≤ k) = s.any p := by
    by_cases h : s.any p = true
    · have : ∃ i : Nat, ∃ x, s[i]? = some x ∧ p x = true ∧ ∀ (j : Nat) y, j < i → s[j]? = some y → p y = false := first_of h
      obtain ⟨i, x, h1, h2, h3⟩ := this
      have hil := (List.getElem?_eq_some_iff.1 h1).1
      refine ⟨i, ?_, by rw [h]; simp⟩
      have := loop_run (step := F_slices_IndexFunc___api_Blow_api_Blow__s1 n s f) (fun j => (j : Int)) (r := .inl (i : Int)) i 0 n (fun j _ hj => ?_) ?_ (by omega)
      · unfold F_slices_IndexFunc___api_Blow_api_Blow_
        simp only [Int.natCast_zero] at this
        rw [this]; rfl
      · have hj' : j < s.length := by omega
        have e : s[j]? = some s[j] := List.getElem?_eq_getElem hj'
        simp only [F_slices_IndexFunc___api_Blow_api_Blow__s1, geti_nat, e, Option.bind_some, hf _ (List.getElem_mem hj'), h3 j _ (by omega) e, lt_nat, hj', decide_true, if_true, Bool.false_eq_true, if_false, w64_nat (show j ≤ 4611686018427387904 by omega)]
      · simp only [Nat.zero_add, F_slices_IndexFunc___api_Blow_api_Blow__s1, geti_nat, h1, Option.bind_some, hf _ (List.mem_of_getElem? h1), h2, lt_nat, hil, decide_true, if_true]
    · have hno : ∀ x ∈ s, p x = false := fun x hx => by
        cases hp : p x with
        | false => rfl
        | true => exact absurd (List.any_eq_true.2 ⟨x, hx, hp⟩) h
      refine ⟨-1, ?_, by simp only [Bool.not_eq_true] at h; rw [h]; rfl⟩
      have := loop_all_l (step := F_slices_IndexFunc___api_Blow_api_Blow__s1 n s f) s (fun _ => true) (0 : Int) (n := n) (by omega) (fun i x hx hi => ?_) ?_ (by omega)
      · unfold F_slices_IndexFunc___api_Blow_api_Blow_; rw [this, show (s.all fun _ => true) = true by simp]; rfl
      · simp only [F_slices_IndexFunc___api_Blow_api_Blow__s1, geti_nat, hx, Option.bind_some, hf _ (List.mem_of_getElem? hx), hno _ (List.mem_of_getElem? hx), lt_nat, hi, decide_true, if_true, cond_true, Bool.false_eq_true, if_false, w64_nat (show i ≤ 4611686018427387904 by omega)]
      · simp [F_slices_IndexFunc___api_Blow_api_Blow__s1]
  obtain ⟨k, h1, h2⟩ := this
  simp only [F_slices_ContainsFunc___api_Blow_api_Blow_, h1, Option.bind_some, h2]
theorem p_ContainsMeter (s : List Meter) (f : Meter → Option Bool) (p : Meter → Bool) (hf : ∀ x, x ∈ s → f x = some (p x)) (hs : s.length ≤ 1000) : F_slices_ContainsFunc___api_Meter_api_Meter_ n s f = some (s.any p) := by
  have : ∃ k, F_slices_IndexFunc___api_Meter_api_Meter_ n s f = some k ∧ decide (0 ≤ k) = s.any p := by
    by_cases h : s.any p = true
    · have : ∃ i : Nat, ∃ x, s[i]? = some x ∧ p x = true ∧ ∀ (j : Nat) y, j < i → s[j]? = some y → p y = false := first_of h
      obtain ⟨i, x, h1, h2, h3⟩ := this
      have hil := (List.getElem?_eq_some_iff.1 h1).1
      refine ⟨i, ?_, by rw [h]; simp⟩
      have := loop_run (step := F_slices_IndexFunc___api_Meter_api_Meter__s1 n s f) (fun j => (j : Int)) (r := .inl (i : Int)) i 0 n (fun j _ hj => ?_) ?_ (by omega)
      · unfold F_slices_IndexFunc___api_Meter_api_Meter_
        simp only [Int.natCast_zero] at this
        rw [this]; rfl
      · have hj' : j < s.length := by omega
        have e : s[j]? = some s[j] := List.getElem?_eq_getElem hj'
        simp only [F_slices_IndexFunc___api_Meter_api_Meter__s1, geti_nat, e, Option.bind_some, hf _ (List.getElem_mem hj'), h3 j _ (by omega) e, lt_nat, hj', decide_true, if_true, Bool.false_eq_true, if_false, w64_nat (show j ≤ 4611686018427387904 by omega)]
      · simp only [Nat.zero_add, F_slices_IndexFunc___api_Meter_api_Meter__s1, geti_nat, h1, Option.bind_some, hf _ (List.mem_of_getElem? h1), h2, lt_nat, hil, decide_true, if_true]
    · have hno : ∀ x ∈ s, p x = false := fun x hx => by
        cases hp : p x with
        | false => rfl
        | true => exact absurd (List.any_eq_true.2 ⟨x, hx, hp⟩) h
      refine ⟨-1, ?_, by simp only [Bool.not_eq_true] at h; rw [h]; rfl⟩
      have := loop_all_l (step := F_slices_IndexFunc___api_Meter_api_Meter__s1 n s f) s (fun _ => true) (0 : Int) (n := n) (by omega) (fun i x hx hi => ?_) ?_ (by omega)
      · unfold F_slices_IndexFunc___api_Meter_api_Meter_; rw [this, show (s.all fun _ => true) = true by simp]; rfl
      · simp only [F_slices_IndexFunc___api_Meter_api_Meter__s1, geti_nat, hx, Option.bind_some, hf _ (List.mem_of_getElem? hx), hno _ (List.mem_of_getElem? hx), lt_nat, hi, decide_true, if_true, cond_true, Bool.false_eq_true, if_false, w64_nat (show i ≤ 4611686018427387904 by omega)]
      · simp [F_slices_IndexFunc___api_Meter_api_Meter__s1]
  obtain ⟨k, h1, h2⟩ := this
  simp only [F_slices_ContainsFunc___api_Meter_api_Meter_, h1, Option.bind_some, h2]
end
def okBlow (d : Canopy) (b : Blow) : Bool := wi b.At 0 ((d.Ribs.length : Int) - 1) && wi b.Force.Low 0 b.Force.High && decide (b.Force.High ≤ 99) && decide (w64 (b.Force.High - b.Force.Low) ≤ 9)
def okMeter (m : Meter) : Bool := wi m.Limit 0 99 && wi m.Count 0 8
def okR (r : Run) : Bool := okD r.Canopy && decide (r.Blows.length ≤ 8) && decide (r.Meters.length ≤ 5) && r.Blows.all (okBlow r.Canopy) && r.Meters.all okMeter && wi r.Wrong 0 5
def checkR (r : Run) : Int := if okR r = true then 0 else 130
structure BlOk (d : Canopy) (b : Blow) : Prop where
  at_ : 0 ≤ b.At ∧ b.At < d.Ribs.length
  lo : 0 ≤ b.Force.Low
  le : b.Force.Low ≤ b.Force.High
  hi : b.Force.High ≤ 99
  gap : b.Force.High - b.Force.Low ≤ 9
structure ROk (r : Run) : Prop where
  d : DOk r.Canopy
  nb : r.Blows.length ≤ 8
  nm : r.Meters.length ≤ 5
  b : ∀ b ∈ r.Blows, BlOk r.Canopy b
  m : ∀ m ∈ r.Meters, (0 ≤ m.Limit ∧ m.Limit ≤ 99) ∧ 0 ≤ m.Count ∧ m.Count ≤ 8
  w : 0 ≤ r.Wrong ∧ r.Wrong ≤ 5
theorem okBlow_iff {d : Canopy} {b : Blow} : okBlow d b = true ↔ BlOk d b := by
  simp only [okBlow, Bool.and_eq_true, wi_t, decide_eq_true_eq]
  constructor
  · rintro ⟨⟨⟨h1, h2⟩, h3⟩, h4⟩
    rw [w64_id (by omega) (by omega)] at h4
    exact ⟨by omega, by omega, by omega, h3, h4⟩
  · rintro ⟨h1, h2, h3, h4, h5⟩
    rw [w64_id (by omega) (by omega)]
    exact ⟨⟨⟨by omega, by omega⟩, h4⟩, h5⟩
theorem okR_iff {r : Run} : okR r = true ↔ ROk r := by
  simp only [okR, Bool.and_eq_true, okD_iff, wi_t, List.all_eq_true, okBlow_iff, okMeter, decide_eq_true_eq]
  constructor
  · rintro ⟨⟨⟨⟨⟨h1, h2⟩, h3⟩, h4⟩, h5⟩, h6⟩
    exact ⟨h1, h2, h3, h4, h5, h6⟩
  · rintro ⟨h1, h2, h3, h4, h5, h6⟩
    exact ⟨⟨⟨⟨⟨h1, h2⟩, h3⟩, h4⟩, h5⟩, h6⟩
theorem checkR_ok {r : Run} : checkR r = 0 ↔ ROk r := by
  unfold checkR
  rw [← okR_iff]
  by_cases h : okR r = true <;> simp [h]
def SmallR (r : Run) : Prop := Small r.Canopy ∧ r.Blows.length ≤ 1000 ∧ r.Meters.length ≤ 1000
theorem ROk.small {r : Run} (h : ROk r) : SmallR r := ⟨h.d.small, by have := h.nb; omega, by have := h.nm; omega⟩
section
variable {n : Nat} (hn : 100000000 ≤ n)
include hn
omit hn in
theorem p_cwithin (n : Nat) (a b c : Int) : F_counts_within n a b c = some (wi a b c) := rfl
theorem p_CheckC {r : Run} (hs : SmallR r) : F_counts_Check n r = some (checkR r) := by
  have c1 := p_ContainsBlow hn r.Blows (fun a0_ => F_counts_Check_1 n a0_ r) (fun b => !okBlow r.Canopy b) (fun b _ => by
    simp only [F_counts_Check_1, p_cwithin, Option.bind_some, or_br, okBlow, Bool.not_and]
    rw [w64_id (by have := hs.1.2.1; omega) (by have := hs.1.2.1; omega)]
    have e1 : decide (99 < b.Force.High) = !decide (b.Force.High ≤ 99) := by rw [← decide_not]; congr 1; simp
    have e2 : decide (9 < w64 (b.Force.High - b.Force.Low)) = !decide (w64 (b.Force.High - b.Force.Low) ≤ 9) := by rw [← decide_not]; congr 1; simp
    rw [e1, e2]) hs.2.1
  have c2 := p_ContainsMeter hn r.Meters (fun a0_ => F_counts_Check_2 n a0_) (fun m => !okMeter m) (fun m _ => by
    simp only [F_counts_Check_2, p_cwithin, Option.bind_some, or_br, okMeter, Bool.not_and]) hs.2.2
  have e1 : (r.Blows.any fun b => !okBlow r.Canopy b) = !r.Blows.all (okBlow r.Canopy) := by simp [List.any_eq_not_all_not]
  have e2 : (r.Meters.any fun m => !okMeter m) = !r.Meters.all okMeter := by simp [List.any_eq_not_all_not]
  have e3 : ((if okD r.Canopy = true then (0 : Int) else 50) != 0) = !okD r.Canopy := by cases okD r.Canopy <;> rfl
  have e4 : decide (8 < (r.Blows.length : Int)) = !decide (r.Blows.length ≤ 8) := by rw [← decide_not]; congr 1; simp; omega
  have e5 : decide (5 < (r.Meters.length : Int)) = !decide (r.Meters.length ≤ 5) := by rw [← decide_not]; congr 1; simp; omega
  simp only [F_counts_Check, p_gCheck hn hs.1, Option.bind_some, e3, e4, e5, c1, c2, e1, e2, p_cwithin, or_br]
  have e : (((((!okD r.Canopy || !decide (r.Blows.length ≤ 8)) || !decide (r.Meters.length ≤ 5)) || !r.Blows.all (okBlow r.Canopy)) || !r.Meters.all okMeter) || !wi r.Wrong 0 5) = !okR r := by
    simp only [okR, Bool.not_and]
  rw [e, checkR]
  cases okR r <;> rfl
theorem p_IsRib05 (d : Canopy) (i : Int) (hs : d.Ribs.length ≤ 1000) : F_ref05_IsRib n d i = some (wi i 0 ((d.Ribs.length : Int) - 1)) := by
  have _hn := hn
  simp only [F_ref05_IsRib, p_within05, Option.bind_some]
  rw [w64_id (by omega) (by omega)]
omit hn in
theorem p_within13 (n : Nat) (a b c : Int) : F_ref13_within n a b c = some (wi a b c) := rfl
theorem p_Check13 {r : Run} (hs : SmallR r) : F_ref13_Check n r = some (checkR r) := by
  have e3 : ((if okD r.Canopy = true then (0 : Int) else 50) != 0) = !okD r.Canopy := by cases okD r.Canopy <;> rfl
  have e4 : decide (8 < (r.Blows.length : Int)) = !decide (r.Blows.length ≤ 8) := by rw [← decide_not]; congr 1; simp; omega
  have e5 : decide (5 < (r.Meters.length : Int)) = !decide (r.Meters.length ≤ 5) := by rw [← decide_not]; congr 1; simp; omega
  have l1 := loop_all_l (step := F_ref13_Check_s1 n r) r.Blows (okBlow r.Canopy) (130 : Int) (n := n) (by have := hs.2.1; omega) (fun i x hx hi => by
    simp only [F_ref13_Check_s1, lt_nat, hi, decide_true, if_true, geti_nat, hx, Option.bind_some, p_IsRib05 hn _ _ hs.1.2.1, p_within13, or_br]
    have e6 : decide (99 < x.Force.High) = !decide (x.Force.High ≤ 99) := by rw [← decide_not]; congr 1; simp
    have e7 : decide (9 < w64 (x.Force.High - x.Force.Low)) = !decide (w64 (x.Force.High - x.Force.Low) ≤ 9) := by rw [← decide_not]; congr 1; simp
    rw [e6, e7, w64_nat (show i ≤ 4611686018427387904 by have := hs.2.1; omega)]
    have e : (((!wi x.At 0 ((r.Canopy.Ribs.length : Int) - 1) || !wi x.Force.Low 0 x.Force.High) || !decide (x.Force.High ≤ 99)) || !decide (w64 (x.Force.High - x.Force.Low) ≤ 9)) = !okBlow r.Canopy x := by simp only [okBlow, Bool.not_and]
    rw [e]
    cases okBlow r.Canopy x <;> rfl) (by simp [F_ref13_Check_s1]) (by have := hs.2.1; omega)
  have l2 := loop_all_l (step := F_ref13_Check_s2 n r) r.Meters okMeter (130 : Int) (n := n) (by have := hs.2.2; omega) (fun i x hx hi => by
    simp only [F_ref13_Check_s2, lt_nat, hi, decide_true, if_true, geti_nat, hx, Option.bind_some, p_within13, or_br]
    rw [w64_nat (show i ≤ 4611686018427387904 by have := hs.2.2; omega)]
    have e : (!wi x.Limit 0 99 || !wi x.Count 0 8) = !okMeter x := by simp only [okMeter, Bool.not_and]
    rw [e]
    cases okMeter x <;> rfl) (by simp [F_ref13_Check_s2]) (by have := hs.2.2; omega)
  simp only [F_ref13_Check, p_Check05 hn hs.1, Option.bind_some, e3, e4, e5, p_within13, or_br, l1, l2]
  unfold checkR okR
  cases okD r.Canopy <;> cases decide (r.Blows.length ≤ 8) <;> cases decide (r.Meters.length ≤ 5) <;> cases r.Blows.all (okBlow r.Canopy) <;> cases r.Meters.all okMeter <;> cases wi r.Wrong 0 5 <;> rfl
end
/-- the forces of some blows, one for each -/
def casesS : List Blow → List (List Int)
  | [] => [[]]
  | b :: bl => (span b.Force.Low b.Force.High).flatMap fun f => (casesS bl).map fun c => f :: c
theorem casesS_len : ∀ {bl : List Blow} {c : List Int}, c ∈ casesS bl → c.length = bl.length
  | [], c, h => by simp [casesS] at h; subst h; rfl
  | b :: bl, c, h => by
    simp only [casesS, List.mem_flatMap, List.mem_map] at h
    obtain ⟨f, _, c', h2, rfl⟩ := h
    simp [casesS_len h2]
/-- does a meter count a force? -/
def mtr (ms : List Meter) (f : Int) (j : Nat) : Int := match ms[j]? with | some m => if m.Limit ≤ f then 1 else 0 | none => 0
theorem mtr_some {ms : List Meter} {f : Int} {j : Nat} {m : Meter} (h : ms[j]? = some m) : mtr ms f j = if m.Limit ≤ f then 1 else 0 := by simp [mtr, h]
theorem mtr_none {ms : List Meter} {f : Int} {j : Nat} (h : ms.length ≤ j) : mtr ms f j = 0 := by simp [mtr, List.getElem?_eq_none h]
theorem mtr_in (ms : List Meter) (f : Int) (j : Nat) : mtr ms f j = 0 ∨ mtr ms f j = 1 := by
  unfold mtr
  cases ms[j]? with
  | none => exact .inl rfl
  | some m => simp only; split <;> simp
/-- one more force to all readings -/
def addS (ms : List Meter) (a : Blow → Int → Bool) (x : List Int) (b : Blow) (f : Int) : List Int :=
  (List.range 6).map fun j => x.getD j 0 + (if j = 5 then (if a b f = true then 1 else 0) else mtr ms f j)
/-- all readings behind some blows -/
def rdsF (ms : List Meter) (a : Blow → Int → Bool) (bl : List Blow) (L : List (List Int)) : List (List Int) :=
  bl.foldl (fun L b => L.flatMap fun x => (span b.Force.Low b.Force.High).map fun f => addS ms a x b f) L
def zeroX : List Int := [0, 0, 0, 0, 0, 0]
/-- what a case is read as -/
def readS (ms : List Meter) (a : Blow → Int → Bool) : List Blow → List Int → List Int → List Int
  | b :: bl, f :: c, x => readS ms a bl c (addS ms a x b f)
  | _, _, x => x
theorem rdsF_cases (ms : List Meter) (a : Blow → Int → Bool) : ∀ (bl : List Blow) (L : List (List Int)), rdsF ms a bl L = L.flatMap fun x => (casesS bl).map fun c => readS ms a bl c x
  | [], L => by simp [rdsF, casesS, readS]
  | b :: bl, L => by
    show rdsF ms a bl (L.flatMap fun x => (span b.Force.Low b.Force.High).map fun f => addS ms a x b f) = _
    rw [rdsF_cases ms a bl, List.flatMap_assoc]
    congr 1
    funext x
    rw [List.flatMap_map, casesS, List.map_flatMap]
    congr 1
    funext f
    rw [List.map_map]
    rfl
end Go.Proofs.YtcipdblhopffbaaGreat
end
section
namespace Go.Proofs.YtcipdblhopffbaaGreat
open Go Go.RowKit Go.Dec
set_option linter.unusedVariables false
theorem flatMap_two {α β : Type} (f g : α → List β) : ∀ l : List α, (l.flatMap fun x => f x ++ g x).Perm (l.flatMap f ++ l.flatMap g)
  | [] => by simp
  | a :: l => by
    simp only [List.flatMap_cons]
    have ih := flatMap_two f g l
    have h1 : (f a ++ g a ++ l.flatMap fun x => f x ++ g x).Perm (f a ++ g a ++ (l.flatMap f ++ l.flatMap g)) := ih.append_left _
    refine h1.trans ?_
    rw [List.append_assoc, List.append_assoc]
    refine List.Perm.append_left _ ?_
    rw [← List.append_assoc, ← List.append_assoc]
    exact List.Perm.append_right _ List.perm_append_comm
theorem flatMap_rep {α β : Type} (g : α → β → List Int) (x : α) (c : Nat) : ∀ S : List β, (S.flatMap fun f => List.replicate c (g x f)).Perm ((List.replicate c x).flatMap fun x => S.map (g x))
  | [] => by
    have : ∀ c : Nat, ((List.replicate c x).flatMap fun x => ([] : List (List Int))) = [] := fun c => by induction c <;> simp_all
    simp
  | f :: S => by
    simp only [List.flatMap_cons, List.map_cons]
    have h1 := flatMap_two (fun x => [g x f]) (fun x => S.map (g x)) (List.replicate c x)
    have e : ∀ c : Nat, ((List.replicate c x).flatMap fun x => [g x f]) = List.replicate c (g x f) := fun c => by
      induction c with
      | zero => rfl
      | succ c ih => rw [List.replicate_succ, List.flatMap_cons, ih]; rfl
    rw [e] at h1
    exact ((flatMap_rep g x c S).append_left _).trans h1.symm
theorem flatMap_pw {α β : Type} {f g : α → List β} : ∀ l : List α, (∀ x ∈ l, (f x).Perm (g x)) → (l.flatMap f).Perm (l.flatMap g)
  | [], _ => by simp
  | a :: l, h => by
    simp only [List.flatMap_cons]
    exact (h a (List.mem_cons_self ..)).append (flatMap_pw l fun x hx => h x (List.mem_cons_of_mem _ hx))
theorem flatMap_of {α β : Type} {f : α → List β} {l m : List α} (h : l.Perm m) : (l.flatMap f).Perm (m.flatMap f) := by
  induction h with
  | nil => simp
  | cons x _ ih => simp only [List.flatMap_cons]; exact ih.append_left _
  | swap x y l => simp only [List.flatMap_cons]; rw [← List.append_assoc, ← List.append_assoc]; exact List.Perm.append_right _ List.perm_append_comm
  | trans _ _ ih1 ih2 => exact ih1.trans ih2
theorem mput_mput {m : Mp} (h : Srt m) (k : List Int) (u v : Int) : mput (mput m k u) k v = mput m k v := srt_ext (srt_mput (srt_mput h)) (srt_mput h) fun p => by
  rw [mem_mput (srt_mput h), mem_mput h, mem_mput h]
  constructor
  · rintro (h1 | ⟨h1 | h1, h2⟩)
    · exact .inl h1
    · rw [h1] at h2; exact absurd rfl h2
    · exact .inr h1
  · rintro (h1 | h1)
    · exact .inl h1
    · exact .inr ⟨.inr h1, h1.2⟩
def VOk (k : Nat) (x : List Int) : Prop := x.length = 6 ∧ ∀ j, 0 ≤ x.getD j 0 ∧ x.getD j 0 ≤ k
theorem VOk.kok {k : Nat} {x : List Int} (h : VOk k x) (hk : k ≤ 1000) : kok 6 x = some () := kok_ok ⟨h.1, fun y hy => by
  obtain ⟨i, hi, rfl⟩ := List.getElem_of_mem hy
  have := h.2 i
  rw [List.getD_eq_getElem?_getD, List.getElem?_eq_getElem hi] at this
  simp only [Option.getD_some] at this
  omega⟩
theorem xok_zero : VOk 0 zeroX := ⟨rfl, fun j => by
  match j with
  | 0 | 1 | 2 | 3 | 4 | 5 => simp [zeroX]
  | j + 6 => simp [zeroX]⟩
theorem range_getD {g : Nat → Int} {N j : Nat} : ((List.range N).map g).getD j 0 = if j < N then g j else 0 := by
  rw [List.getD_eq_getElem?_getD, List.getElem?_map]
  by_cases h : j < N
  · rw [List.getElem?_range h, if_pos h]; rfl
  · rw [List.getElem?_eq_none (by simpa using h), if_neg h]; rfl
theorem xok_add {ms : List Meter} {a : Blow → Int → Bool} {k : Nat} {x : List Int} (h : VOk k x) (b : Blow) (f : Int) : VOk (k + 1) (addS ms a x b f) := by
  refine ⟨by simp [addS], fun j => ?_⟩
  unfold addS
  rw [range_getD]
  have := h.2 j
  by_cases hj : j < 6
  · rw [if_pos hj]
    by_cases h5 : j = 5
    · rw [if_pos h5]
      cases a b f
      · rw [if_neg (by simp)]; omega
      · rw [if_pos rfl]; omega
    · rw [if_neg h5]
      have := mtr_in ms f j; omega
  · rw [if_neg hj]; omega
theorem xok_rds {ms : List Meter} {a : Blow → Int → Bool} : ∀ (bl : List Blow) (k : Nat) (L : List (List Int)), (∀ x ∈ L, VOk k x) → ∀ x ∈ rdsF ms a bl L, VOk (k + bl.length) x
  | [], k, L, h => by simpa [rdsF] using h
  | b :: bl, k, L, h => by
    intro x hx
    have := xok_rds bl (k + 1) (L.flatMap fun x => (span b.Force.Low b.Force.High).map fun f => addS ms a x b f) (fun y hy => by
      obtain ⟨z, hz, hy⟩ := List.mem_flatMap.1 hy
      obtain ⟨f, _, rfl⟩ := List.mem_map.1 hy
      exact xok_add (h z hz) b f) x hx
    rw [List.length_cons, show k + (bl.length + 1) = k + 1 + bl.length by omega]
    exact this
theorem xok_of {ms : List Meter} {a : Blow → Int → Bool} {bl : List Blow} (h : bl.length ≤ 8) : ∀ x ∈ rdsF ms a bl [zeroX], VOk 8 x := fun x hx => by
  have := xok_rds bl 0 [zeroX] (fun y hy => by rw [List.mem_singleton.1 hy]; exact xok_zero) x hx
  exact ⟨this.1, fun j => by have := this.2 j; omega⟩
theorem flatMap_len {α β : Type} {f : α → List β} {c : Nat} : ∀ {l : List α}, (∀ x ∈ l, (f x).length ≤ c) → (l.flatMap f).length ≤ l.length * c
  | [], _ => by simp
  | a :: l, h => by
    have h1 := h a (List.mem_cons_self ..)
    have h2 := flatMap_len (l := l) fun x hx => h x (List.mem_cons_of_mem _ hx)
    simp only [List.flatMap_cons, List.length_append, List.length_cons, Nat.succ_mul]
    omega
theorem rds_len {d : Canopy} {ms : List Meter} {a : Blow → Int → Bool} : ∀ (bl : List Blow) (L : List (List Int)), (∀ b ∈ bl, BlOk d b) → (rdsF ms a bl L).length ≤ L.length * 10 ^ bl.length
  | [], L, _ => by simp [rdsF]
  | b :: bl, L, h => by
    have h1 := rds_len (ms := ms) (a := a) bl (L.flatMap fun x => (span b.Force.Low b.Force.High).map fun f => addS ms a x b f) fun y hy => h y (List.mem_cons_of_mem _ hy)
    have hb := h b (List.mem_cons_self ..)
    have h2 : (L.flatMap fun x => (span b.Force.Low b.Force.High).map fun f => addS ms a x b f).length ≤ L.length * 10 := flatMap_len fun x _ => by
      rw [List.length_map, span_len]
      have := hb.gap; omega
    have h3 := Nat.mul_le_mul_right (10 ^ bl.length) h2
    rw [List.length_cons, Nat.pow_succ]
    calc _ ≤ _ := h1
      _ ≤ L.length * 10 * 10 ^ bl.length := h3
      _ = L.length * (10 ^ bl.length * 10) := by rw [Nat.mul_assoc, Nat.mul_comm 10]
theorem sum_nonneg {l : Mp} (h : ∀ z ∈ l, 0 < z.2) : 0 ≤ (l.map (·.2)).sum := by
  induction l with
  | nil => simp
  | cons z l ih =>
    have := h z (List.mem_cons_self ..)
    have := ih fun y hy => h y (List.mem_cons_of_mem _ hy)
    simp only [List.map_cons, List.sum_cons]; omega
theorem sum_perm {l m : Mp} (h : l.Perm m) : (l.map (·.2)).sum = (m.map (·.2)).sum := by
  induction h with
  | nil => rfl
  | cons x _ ih => simp only [List.map_cons, List.sum_cons, ih]
  | swap x y l => simp only [List.map_cons, List.sum_cons]; omega
  | trans _ _ ih1 ih2 => exact ih1.trans ih2
theorem len_rep {S : List Int} {g : List Int × Int → Int → List Int} (hS : S.length ≤ 10) {l : Mp} (h : ∀ z ∈ l, 0 < z.2) : ((l.flatMap fun p => S.flatMap fun f => List.replicate p.2.toNat (g p f)).length : Int) ≤ 10 * (l.map (·.2)).sum := by
  induction l with
  | nil => simp
  | cons z l ih =>
    have hz := h z (List.mem_cons_self ..)
    have h1 := ih fun y hy => h y (List.mem_cons_of_mem _ hy)
    have h2 : (S.flatMap fun f => List.replicate z.2.toNat (g z f)).length ≤ S.length * z.2.toNat := flatMap_len fun f _ => by simp
    have h3 := Nat.mul_le_mul_right z.2.toNat hS
    simp only [List.flatMap_cons, List.length_append, List.map_cons, List.sum_cons]
    omega
theorem setx_range {N i : Nat} {g : Nat → Int} (y : Int) : setx ((List.range N).map g) (i : Int) y = (List.range N).map fun j => if j = i then y else g j := by
  apply List.ext_getElem?
  intro j
  unfold setx
  simp only [Int.toNat_natCast, List.getElem?_set, List.getElem?_map, List.length_map, List.length_range]
  by_cases h : j < N
  · rw [List.getElem?_range h]
    by_cases e : i = j
    · subst e; simp [h]
    · simp [e, Ne.symm e]
  · rw [List.getElem?_eq_none (by simpa using h)]
    by_cases e : i = j
    · subst e; simp [h]
    · simp [e]
theorem geti_range {N i : Nat} {g : Nat → Int} (h : i < N) : geti ((List.range N).map g) (i : Int) = some (g i) := by
  rw [geti_nat, List.getElem?_map, List.getElem?_range h]; rfl
/-- the first i meters have read -/
def addP (ms : List Meter) (x : List Int) (f : Int) (i : Nat) : List Int := (List.range 6).map fun j => x.getD j 0 + (if j < i then mtr ms f j else 0)
theorem addP_zero {ms : List Meter} {x : List Int} {f : Int} (h : x.length = 6) : addP ms x f 0 = x := by
  apply List.ext_getElem?
  intro j
  unfold addP
  by_cases hj : j < 6
  · rw [List.getElem?_map, List.getElem?_range hj, List.getElem?_eq_getElem (by omega)]
    simp [List.getD_eq_getElem?_getD, List.getElem?_eq_getElem (show j < x.length by omega)]
  · rw [List.getElem?_eq_none (by simpa using hj), List.getElem?_eq_none (by omega)]
section
variable {n : Nat} (hn : 100000000 ≤ n)
include hn
theorem p_add {r : Run} {asked : Blow → Int → Option Bool} {a : Blow → Int → Bool} (hm : r.Meters.length ≤ 5) {k : Nat} (hk : k ≤ 1000) {x : List Int} (hx : VOk k x) {b : Blow} {f : Int} (ha : asked b f = some (a b f)) :
    F_counts_test_add n ⟨r, asked⟩ x b f = some (addS r.Meters a x b f) := by
  have hl := loop_run (step := F_counts_test_add_s1 n ⟨r, asked⟩ f) (fun i => ((i : Int), addP r.Meters x f i)) (r := addP r.Meters x f r.Meters.length) r.Meters.length 0 n (fun i _ hi => by
    have hi : i < r.Meters.length := by omega
    have e : r.Meters[i]? = some r.Meters[i] := List.getElem?_eq_getElem hi
    simp only [F_counts_test_add_s1, lt_nat, hi, decide_true, if_true, geti_nat, e, Option.bind_some]
    have hx2 := hx.2 i
    by_cases h : r.Meters[i].Limit ≤ f
    · simp only [h, decide_true, if_true]
      have hg : (addP r.Meters x f i)[i]? = some (x.getD i 0 + 0) := by
        unfold addP
        rw [List.getElem?_map, List.getElem?_range (by omega)]
        simp
      rw [hg]
      simp only [Option.bind_some, w64_nat (show i ≤ 4611686018427387904 by omega)]
      rw [w64_id (by omega) (by omega)]
      congr 3
      unfold addP
      rw [setx_range]
      apply List.map_congr_left
      intro j _
      by_cases e1 : j = i
      · subst e1; rw [if_pos rfl, if_pos (by omega), mtr_some e, if_pos h]; omega
      · rw [if_neg e1]
        by_cases e2 : j < i
        · rw [if_pos e2, if_pos (by omega)]
        · rw [if_neg e2, if_neg (by omega)]
    · simp only [h, decide_false, Bool.false_eq_true, if_false, Option.bind_some, w64_nat (show i ≤ 4611686018427387904 by omega)]
      congr 3
      unfold addP
      apply List.map_congr_left
      intro j _
      by_cases e1 : j = i
      · subst e1; rw [if_neg (by omega), if_pos (by omega), mtr_some e, if_neg h]
      · by_cases e2 : j < i
        · rw [if_pos e2, if_pos (by omega)]
        · rw [if_neg e2, if_neg (by omega)]) (by simp [F_counts_test_add_s1]) (by omega)
  simp only [Int.natCast_zero, Nat.zero_add] at hl
  rw [addP_zero hx.1] at hl
  simp only [F_counts_test_add, hl, Option.bind_some, ha]
  have e5 : geti (addP r.Meters x f r.Meters.length) 5 = some (x.getD 5 0) := by
    have := geti_range (g := fun j => x.getD j 0 + (if j < r.Meters.length then mtr r.Meters f j else 0)) (show 5 < 6 by omega)
    rw [if_neg (by omega), Int.add_zero] at this
    exact this
  have hx5 := hx.2 5
  have last : ∀ v : Int, setx (addP r.Meters x f r.Meters.length) 5 v = (List.range 6).map fun j => if j = 5 then v else x.getD j 0 + mtr r.Meters f j := fun v => by
    have := setx_range (N := 6) (i := 5) (g := fun j => x.getD j 0 + (if j < r.Meters.length then mtr r.Meters f j else 0)) v
    unfold addP
    rw [show ((5 : Nat) : Int) = 5 from rfl] at this
    rw [this]
    apply List.map_congr_left
    intro j _
    by_cases e1 : j = 5
    · rw [if_pos e1, if_pos e1]
    · rw [if_neg e1, if_neg e1]
      by_cases e2 : j < r.Meters.length
      · rw [if_pos e2]
      · rw [if_neg e2, mtr_none (by omega)]
  cases h : a b f with
  | true =>
    simp only [if_true, e5, Option.bind_some]
    rw [w64_id (by omega) (by omega), last]
    congr 1
    unfold addS
    apply List.map_congr_left
    intro j _
    by_cases e1 : j = 5
    · rw [if_pos e1, if_pos e1, e1, h]; simp
    · rw [if_neg e1, if_neg e1]
  | false =>
    simp only [Bool.false_eq_true, if_false, Option.bind_some]
    congr 1
    unfold addS addP
    apply List.map_congr_left
    intro j _
    by_cases e1 : j = 5
    · rw [if_pos e1, if_neg (by omega), h]; simp
    · rw [if_neg e1]
      by_cases e2 : j < r.Meters.length
      · rw [if_pos e2]
      · rw [if_neg e2, mtr_none (by omega)]
theorem p_force {r : Run} {asked : Blow → Int → Option Bool} {a : Blow → Int → Bool} (hm : r.Meters.length ≤ 5) {k : Nat} (hk : k ≤ 100) {x : List Int} (hx : VOk k x) {b : Blow} {v : Int} (hv : 0 < v) {hi : Int} (hhi : b.Force.High = hi) (hhi2 : hi ≤ 99) :
    ∀ (c : Nat) (lo : Int) (L : List (List Int)) (m : Mp) (fuel : Nat), (hi + 1 - lo).toNat = c → 0 ≤ lo → (∀ f, lo ≤ f → f ≤ hi → asked b f = some (a b f)) → RM L m → (L.length : Int) + v * (c + 1) ≤ 1000000000000 → c < fuel →
      ∃ m', loopO fuel (F_counts_test_readings_s3 n ⟨r, asked⟩ b v x) (lo, m) = some m' ∧ RM (L ++ (span lo hi).flatMap fun f => List.replicate v.toNat (addS r.Meters a x b f)) m' := by
  intro c
  induction c with
  | zero =>
    intro lo L m fuel hc h0 ha hL hb hf
    refine ⟨m, ?_, ?_⟩
    · refine loop_done ?_ hf
      simp only [F_counts_test_readings_s3]
      rw [show decide (lo ≤ b.Force.High) = false by rw [hhi]; exact decide_eq_false (by omega)]
      rfl
    · rw [span_nil (by omega)]; simpa using hL
  | succ c ih =>
    intro lo L m fuel hc h0 ha hL hb hf
    obtain ⟨fuel, rfl⟩ : ∃ k, fuel = k + 1 := ⟨fuel - 1, by omega⟩
    have hle : lo ≤ hi := by omega
    have hadd := p_add hn hm (by omega) hx (ha lo (Int.le_refl _) hle)
    have hkk := (xok_add (ms := r.Meters) (a := a) hx b lo).kok (by omega)
    have hget := hL.get (addS r.Meters a x b lo)
    have hcount := List.count_le_length (a := addS r.Meters a x b lo) (l := L)
    have hmul : v * ((c : Int) + 1 + 1) = v * ((c : Int) + 1) + v := by rw [Int.mul_add v _ 1, Int.mul_one]
    have hmul2 : 0 ≤ v * ((c : Int) + 1) := Int.mul_nonneg (by omega) (by omega)
    have hb' : (L.length : Int) + v * ((c : Int) + 1) + v ≤ 1000000000000 := by
      have : (((c + 1 : Nat) : Int) + 1) = (c : Int) + 1 + 1 := by omega
      rw [this, hmul] at hb; omega
    have hstep : F_counts_test_readings_s3 n ⟨r, asked⟩ b v x (lo, m) = some (.inl (lo + 1, mput m (addS r.Meters a x b lo) (mget m (addS r.Meters a x b lo) + v))) := by
      simp only [F_counts_test_readings_s3]
      rw [show decide (lo ≤ b.Force.High) = true by rw [hhi]; exact decide_eq_true hle]
      simp only [if_true, hadd, Option.bind_some, hkk]
      rw [w64_id (by omega) (by omega), w64_id (by omega) (by omega), mput_mput hL.srt]
    obtain ⟨m', h1, h2⟩ := ih (lo + 1) (L ++ List.replicate v.toNat (addS r.Meters a x b lo)) _ fuel (by omega) (by omega) (fun f h1 h2 => ha f (by omega) h2) (hL.add _ hv) (by
      rw [List.length_append, List.length_replicate]; omega) (by omega)
    refine ⟨m', by rw [loopO_succ, hstep]; exact h1, ?_⟩
    rw [span_cons hle, List.flatMap_cons, ← List.append_assoc]
    exact h2
theorem p_blow {r : Run} {asked : Blow → Int → Option Bool} {a : Blow → Int → Bool} (hr : ROk r) {b : Blow} (hb : b ∈ r.Blows) (ha : ∀ f, b.Force.Low ≤ f → f ≤ b.Force.High → asked b f = some (a b f)) {k : Nat} (hk : k ≤ 100) {L : List (List Int)} (hL : ∀ x ∈ L, VOk k x) (hlen : L.length ≤ 10000000) {M : Mp} (hM : RM L M) :
    permO (F_counts_test_readings_s2 n ⟨r, asked⟩ b) [] M = some (tally (L.flatMap fun x => (span b.Force.Low b.Force.High).map fun f => addS r.Meters a x b f)) := by
  have hbo := hr.b b hb
  have hS : (span b.Force.Low b.Force.High).length ≤ 10 := by rw [span_len]; have := hbo.gap; omega
  refine permO_of fun l hl => ?_
  have key : ∀ (q d : Mp) (m : Mp), (∀ p ∈ q, p ∈ M) → (∀ p ∈ d, p ∈ M) → RM (d.flatMap fun p => (span b.Force.Low b.Force.High).flatMap fun f => List.replicate p.2.toNat (addS r.Meters a p.1 b f)) m → ((d ++ q).map (·.2)).sum ≤ 10000000 →
      ∃ m', foldP (F_counts_test_readings_s2 n ⟨r, asked⟩ b) m q = some m' ∧ RM ((d ++ q).flatMap fun p => (span b.Force.Low b.Force.High).flatMap fun f => List.replicate p.2.toNat (addS r.Meters a p.1 b f)) m' := by
    intro q
    induction q with
    | nil => intro d m _ _ h _; exact ⟨m, rfl, by simpa using h⟩
    | cons p q ih =>
      intro d m hq hd h hs
      have hpM := hq p (List.mem_cons_self ..)
      have hpos := hM.pos p hpM
      have hx := hL p.1 (hM.key.1 ⟨p.2, hpM⟩)
      have hsq := sum_nonneg (l := q) fun z hz => hM.pos z (hq z (List.mem_cons_of_mem _ hz))
      have hsd := sum_nonneg (l := d) fun z hz => hM.pos z (hd z hz)
      have hsum : (d.map (·.2)).sum + (p.2 + (q.map (·.2)).sum) ≤ 10000000 := by
        simpa [List.sum_append] using hs
      have hlen1 := len_rep (g := fun p f => addS r.Meters a p.1 b f) hS (l := d) fun z hz => hM.pos z (hd z hz)
      obtain ⟨m1, h1, h2⟩ := p_force hn hr.nm hk hx hpos rfl hbo.hi _ b.Force.Low _ m n rfl hbo.lo ha h (by
        have hc : (((b.Force.High + 1 - b.Force.Low).toNat : Nat) : Int) + 1 ≤ 11 := by have := hbo.gap; omega
        have := Int.mul_le_mul_of_nonneg_left hc (show 0 ≤ p.2 by omega)
        omega) (by have := hbo.gap; omega)
      have hst : F_counts_test_readings_s2 n ⟨r, asked⟩ b m p = some m1 := by
        cases p
        simp only [F_counts_test_readings_s2, h1, Option.bind_some]
      obtain ⟨m2, h3, h4⟩ := ih (d ++ [p]) m1 (fun z hz => hq z (List.mem_cons_of_mem _ hz)) (fun z hz => by
        rcases List.mem_append.1 hz with hz | hz
        · exact hd z hz
        · rw [List.mem_singleton.1 hz]; exact hpM) (by simpa using h2) (by simpa using hs)
      refine ⟨m2, by rw [foldP, hst]; exact h3, by simpa using h4⟩
  have htot : (l.map (·.2)).sum ≤ 10000000 := by
    rw [sum_perm hl, hM.total]; omega
  obtain ⟨m', h1, h2⟩ := key l [] [] (fun p hp => hl.mem_iff.1 hp) (by simp) (by simpa using RM.nil) (by simpa using htot)
  rw [h1]
  congr 1
  refine (h2.perm' ?_).eq
  rw [List.nil_append]
  refine (flatMap_of hl).trans ?_
  have e : (M.flatMap fun p => (List.replicate p.2.toNat p.1).flatMap fun x => (span b.Force.Low b.Force.High).map fun f => addS r.Meters a x b f) = (expand M).flatMap fun x => (span b.Force.Low b.Force.High).map fun f => addS r.Meters a x b f := by
    unfold expand; rw [List.flatMap_assoc]
  refine (flatMap_pw M fun p _ => flatMap_rep (fun x f => addS r.Meters a x b f) p.1 p.2.toNat (span b.Force.Low b.Force.High)).trans ?_
  rw [e]
  exact flatMap_of hM.perm
/-- all readings of all cases -/
def rds (r : Run) (a : Blow → Int → Bool) : List (List Int) := rdsF r.Meters a r.Blows [zeroX]
theorem p_readings {r : Run} {asked : Blow → Int → Option Bool} {a : Blow → Int → Bool} (hr : ROk r) (ha : ∀ b ∈ r.Blows, ∀ f, b.Force.Low ≤ f → f ≤ b.Force.High → asked b f = some (a b f)) : F_counts_test_readings n ⟨r, asked⟩ = some (tally (rds r a)) := by
  have e0 : mput ([] : Mp) [0, 0, 0, 0, 0, 0] 1 = tally [zeroX] := by
    refine RM.eq ?_
    have := RM.nil.add zeroX (c := 1) (by omega)
    simpa [mget_nil, zeroX] using this
  have hl := loop_run (step := F_counts_test_readings_s1 n ⟨r, asked⟩) (fun i => (tally (rdsF r.Meters a (r.Blows.take i) [zeroX]), (i : Int))) (r := tally (rds r a)) r.Blows.length 0 n (fun i _ hi => by
    have hi : i < r.Blows.length := by omega
    have e : r.Blows[i]? = some r.Blows[i] := List.getElem?_eq_getElem hi
    simp only [F_counts_test_readings_s1, lt_nat, hi, decide_true, if_true, geti_nat, e, Option.bind_some]
    have hsub : ∀ b ∈ r.Blows.take i, b ∈ r.Blows := fun b hb => List.mem_of_mem_take hb
    have hlen := rds_len (d := r.Canopy) (ms := r.Meters) (a := a) (r.Blows.take i) [zeroX] fun b hb => hr.b b (hsub b hb)
    have hnb := hr.nb
    have hp : (10 : Nat) ^ (r.Blows.take i).length ≤ 10 ^ 7 := Nat.pow_le_pow_right (by omega) (by rw [List.length_take]; omega)
    have := p_blow hn hr (List.getElem_mem hi) (ha _ (List.getElem_mem hi)) (k := 8) (by omega) (L := rdsF r.Meters a (r.Blows.take i) [zeroX]) (xok_of (by rw [List.length_take]; omega)) (by
      simp only [List.length_cons, List.length_nil] at hlen; omega) (tally_ok _)
    rw [this]
    simp only [Option.bind_some, w64_nat (show i ≤ 4611686018427387904 by omega)]
    congr 3
    rw [List.take_succ_eq_append_getElem hi]
    unfold rdsF
    rw [List.foldl_append]
    rfl) (by simp [F_counts_test_readings_s1, rds]) (by have := hr.nb; omega)
  simp only [Int.natCast_zero, Nat.zero_add, List.take_zero] at hl
  have hk : kok 6 [0, 0, 0, 0, 0, 0] = some () := xok_zero.kok (by omega)
  simp only [F_counts_test_readings, hk, Option.bind_some, e0]
  rw [show rdsF r.Meters a [] [zeroX] = [zeroX] from rfl] at hl
  rw [hl]; rfl
end
def wrongX (ms : List Meter) (x : List Int) : Nat := (List.range ms.length).countP fun i => !(x.getD i 0 == ((ms[i]?).getD ⟨0, 0⟩).Count)
def goodX (r : Run) (x : List Int) : Bool := decide ((wrongX r.Meters x : Int) ≤ r.Wrong)
section
variable {n : Nat} (hn : 100000000 ≤ n)
include hn
theorem p_right {r : Run} {asked : Blow → Int → Option Bool} {x : List Int} (hx : x.length = 6) (hm : r.Meters.length ≤ 5) {i : Nat} (hi : i < r.Meters.length) : F_counts_test_right n ⟨r, asked⟩ x i = some (x.getD i 0 == ((r.Meters[i]?).getD ⟨0, 0⟩).Count) := by
  have _hn := hn
  have e : r.Meters[i]? = some r.Meters[i] := List.getElem?_eq_getElem hi
  have e2 : x[i]? = some (x[i]'(by omega)) := List.getElem?_eq_getElem (by omega)
  simp only [F_counts_test_right, geti_nat, e, e2, Option.bind_some, Option.getD_some, List.getD_eq_getElem?_getD]
theorem p_wrong {r : Run} {asked : Blow → Int → Option Bool} {x : List Int} (hx : x.length = 6) (hm : r.Meters.length ≤ 5) : F_counts_test_wrong n ⟨r, asked⟩ x = some (wrongX r.Meters x : Int) := by
  have hl := loop_fold (step := F_counts_test_wrong_s1 n ⟨r, asked⟩ x) (List.range r.Meters.length) (fun i (b : Int) => (b, (i : Int))) (fun b i => if (!(x.getD i 0 == ((r.Meters[i]?).getD ⟨0, 0⟩).Count)) = true then b + 1 else b) (fun b => b) (fun i b => 0 ≤ b ∧ b ≤ i) (n := n) 0 (by omega) (fun i j b hj hI => by
    have hi : i < r.Meters.length := by simpa using (List.getElem?_eq_some_iff.1 hj).1
    have e : j = i := by
      have := (List.getElem?_eq_some_iff.1 hj).2
      simpa using this.symm
    subst e
    simp only [F_counts_test_wrong_s1, lt_nat, hi, decide_true, if_true, p_right hn hx hm hi, Option.bind_some, w64_nat (show j ≤ 4611686018427387904 by omega)]
    cases (x.getD j 0 == ((r.Meters[j]?).getD ⟨0, 0⟩).Count) with
    | true => simp; omega
    | false =>
      simp only [Bool.not_false, if_true, Option.bind_some]
      rw [w64_id (by omega) (by omega)]
      exact ⟨rfl, by omega⟩) (fun b _ => by simp [F_counts_test_wrong_s1]) (by simp; omega)
  simp only [List.length_range, Int.natCast_zero] at hl
  simp only [F_counts_test_wrong]
  rw [hl.1]
  simp only [Option.bind_some]
  rw [foldl_count, Int.zero_add]
  rfl
omit hn in
theorem foldl_del (bad : List Int → Bool) : ∀ (l m : Mp), l.foldl (fun m (p : List Int × Int) => if bad p.1 = true then mdel m p.1 else m) m = m.filter fun q => !(l.any fun p => bad p.1 && (q.1 == p.1))
  | [], m => by simp [List.filter_eq_self.2]
  | p :: l, m => by
    rw [List.foldl_cons, foldl_del bad l]
    cases hb : bad p.1 with
    | true =>
      rw [if_pos rfl, mdel, List.filter_filter]
      congr 1
      funext q
      simp only [List.any_cons, hb, Bool.true_and, Bool.not_or]
      cases (q.1 == p.1) <;> simp
    | false =>
      simp only [Bool.false_eq_true, if_false]
      congr 1
      funext q
      simp only [List.any_cons, hb, Bool.false_and, Bool.false_or]
theorem p_truthsR {r : Run} {asked : Blow → Int → Option Bool} {a : Blow → Int → Bool} (hr : ROk r) (ha : ∀ b ∈ r.Blows, ∀ f, b.Force.Low ≤ f → f ≤ b.Force.High → asked b f = some (a b f)) : F_counts_test_truths n ⟨r, asked⟩ = some (tally ((rds r a).filter (goodX r))) := by
  have hT := tally_ok (rds r a)
  have h6 : ∀ p ∈ tally (rds r a), p.1.length = 6 := fun p hp => (xok_of hr.nb p.1 (hT.key.1 ⟨p.2, hp⟩)).1
  have hP : permO (F_counts_test_truths_s1 n ⟨r, asked⟩) (tally (rds r a)) (tally (rds r a)) = some (tally ((rds r a).filter (goodX r))) := by
    refine permO_of fun l hl => ?_
    have h1 := foldP_some (step := F_counts_test_truths_s1 n ⟨r, asked⟩) (fun m (p : List Int × Int) => if (!goodX r p.1) = true then mdel m p.1 else m) (m := tally (rds r a)) l (tally (rds r a)) (fun p hp => hl.mem_iff.1 hp) (fun m p hp => by
      obtain ⟨x, v⟩ := p
      have hlen := h6 _ hp
      simp only at hlen
      simp only [F_counts_test_truths_s1, p_wrong hn hlen hr.nm, Option.bind_some]
      have e : decide (r.Wrong < (wrongX r.Meters x : Int)) = !goodX r x := by
        unfold goodX; rw [← decide_not]; congr 1; simp
      rw [e]
      cases goodX r x <;> rfl)
    rw [h1, foldl_del (fun x => !goodX r x) l]
    congr 1
    rw [← (hT.filter (goodX r)).eq]
    refine List.filter_congr fun q hq => ?_
    cases hg : goodX r q.1 with
    | true =>
      have : (l.any fun p => !goodX r p.1 && (q.1 == p.1)) = false := by
        rw [List.any_eq_false]
        intro p _ hh
        simp only [Bool.and_eq_true, beq_iff_eq] at hh
        rw [← hh.2, hg] at hh
        simp at hh
      rw [this]; rfl
    | false =>
      have : (l.any fun p => !goodX r p.1 && (q.1 == p.1)) = true := List.any_eq_true.2 ⟨q, hl.mem_iff.2 hq, by simp [hg]⟩
      rw [this]; rfl
  simp only [F_counts_test_truths, p_readings hn hr ha, Option.bind_some, hP]
/-- readings of truths -/
def trs (r : Run) (a : Blow → Int → Bool) : List (List Int) := (rds r a).filter (goodX r)
def openE (r : Run) (is : Bool) (a : Blow → Int → Bool) : Int := if checkR r ≠ 0 then checkR r else if is = false then 1 else if trs r a = [] then 3 else 0
theorem p_open {r : Run} (hs : SmallR r) (is : Bool) {asked : Blow → Int → Option Bool} {a : Blow → Int → Bool} (ha : ROk r → ∀ b ∈ r.Blows, ∀ f, b.Force.Low ≤ f → f ≤ b.Force.High → asked b f = some (a b f)) :
    F_counts_open n r is asked = some (if openE r is a = 0 then (some ⟨r, asked⟩, tally (trs r a), 0) else (none, [], openE r is a)) := by
  simp only [F_counts_open, p_CheckC hn hs, Option.bind_some]
  unfold openE
  by_cases h : checkR r = 0
  · have hr := checkR_ok.1 h
    simp only [h, bne_self_eq_false, Bool.false_eq_true, if_false, ne_eq, not_true_eq_false]
    cases is with
    | false => rfl
    | true =>
      simp only [Bool.not_true, Bool.false_eq_true, if_false, p_truthsR hn hr (ha hr), Option.bind_some]
      have ht := tally_ok (trs r a)
      by_cases h0 : trs r a = []
      · have e := ht.len0.2 h0
        rw [show tally ((rds r a).filter (goodX r)) = tally (trs r a) from rfl, e, if_pos h0]; rfl
      · have e : ¬ tally (trs r a) = [] := fun e => h0 (ht.len0.1 e)
        rw [show tally ((rds r a).filter (goodX r)) = tally (trs r a) from rfl, if_neg h0]
        have : ((tally (trs r a)).length : Int) ≠ 0 := fun e2 => e (List.eq_nil_of_length_eq_zero (by omega))
        have e3 : (((tally (trs r a)).length : Int) == 0) = false := by simpa using this
        rw [e3]; rfl
  · have e : (checkR r != 0) = true := by simpa using h
    rw [e]
    simp only [if_true, ne_eq, h, not_false_eq_true, if_false]
end
end Go.Proofs.YtcipdblhopffbaaGreat
end
section
namespace Go.Proofs.YtcipdblhopffbaaGreat
open Go Go.RowKit Go.Dec
set_option linter.unusedVariables false
def fmin {α : Type} (f : α → Int) (l : List α) (s : Int) : Int := l.foldl (fun s x => min s (f x)) s
def fmax {α : Type} (f : α → Int) (l : List α) (s : Int) : Int := l.foldl (fun s x => max s (f x)) s
theorem fmin_spec {α : Type} (f : α → Int) : ∀ (l : List α) (s : Int), (fmin f l s ≤ s ∧ ∀ x ∈ l, fmin f l s ≤ f x) ∧ (fmin f l s = s ∨ ∃ x ∈ l, fmin f l s = f x)
  | [], s => ⟨⟨Int.le_refl _, by simp⟩, .inl rfl⟩
  | a :: l, s => by
    obtain ⟨⟨h1, h2⟩, h3⟩ := fmin_spec f l (min s (f a))
    have e : fmin f (a :: l) s = fmin f l (min s (f a)) := rfl
    rw [e]
    refine ⟨⟨by omega, fun x hx => ?_⟩, ?_⟩
    · rcases List.mem_cons.1 hx with rfl | hx
      · omega
      · exact h2 x hx
    · rcases h3 with h3 | ⟨x, hx, h3⟩
      · rcases Int.le_total s (f a) with h | h
        · left; rw [h3]; omega
        · right; exact ⟨a, List.mem_cons_self .., by rw [h3]; omega⟩
      · exact .inr ⟨x, List.mem_cons_of_mem _ hx, h3⟩
theorem fmax_spec {α : Type} (f : α → Int) : ∀ (l : List α) (s : Int), (s ≤ fmax f l s ∧ ∀ x ∈ l, f x ≤ fmax f l s) ∧ (fmax f l s = s ∨ ∃ x ∈ l, fmax f l s = f x)
  | [], s => ⟨⟨Int.le_refl _, by simp⟩, .inl rfl⟩
  | a :: l, s => by
    obtain ⟨⟨h1, h2⟩, h3⟩ := fmax_spec f l (max s (f a))
    have e : fmax f (a :: l) s = fmax f l (max s (f a)) := rfl
    rw [e]
    refine ⟨⟨by omega, fun x hx => ?_⟩, ?_⟩
    · rcases List.mem_cons.1 hx with rfl | hx
      · omega
      · exact h2 x hx
    · rcases h3 with h3 | ⟨x, hx, h3⟩
      · rcases Int.le_total s (f a) with h | h
        · right; exact ⟨a, List.mem_cons_self .., by rw [h3]; omega⟩
        · left; rw [h3]; omega
      · exact .inr ⟨x, List.mem_cons_of_mem _ hx, h3⟩
theorem fmin_eq {α β : Type} {f : α → Int} {g : β → Int} {l : List α} {m : List β} (h1 : ∀ x ∈ l, ∃ y ∈ m, g y = f x) (h2 : ∀ y ∈ m, ∃ x ∈ l, f x = g y) (s : Int) : fmin f l s = fmin g m s := by
  obtain ⟨⟨a1, a2⟩, a3⟩ := fmin_spec f l s
  obtain ⟨⟨b1, b2⟩, b3⟩ := fmin_spec g m s
  have hle : fmin g m s ≤ fmin f l s := by
    rcases a3 with h | ⟨x, hx, h⟩
    · omega
    · obtain ⟨y, hy, e⟩ := h1 x hx
      have := b2 y hy; omega
  have hge : fmin f l s ≤ fmin g m s := by
    rcases b3 with h | ⟨y, hy, h⟩
    · omega
    · obtain ⟨x, hx, e⟩ := h2 y hy
      have := a2 x hx; omega
  omega
theorem fmax_eq {α β : Type} {f : α → Int} {g : β → Int} {l : List α} {m : List β} (h1 : ∀ x ∈ l, ∃ y ∈ m, g y = f x) (h2 : ∀ y ∈ m, ∃ x ∈ l, f x = g y) (s : Int) : fmax f l s = fmax g m s := by
  obtain ⟨⟨a1, a2⟩, a3⟩ := fmax_spec f l s
  obtain ⟨⟨b1, b2⟩, b3⟩ := fmax_spec g m s
  have hle : fmax f l s ≤ fmax g m s := by
    rcases a3 with h | ⟨x, hx, h⟩
    · omega
    · obtain ⟨y, hy, e⟩ := h1 x hx
      have := b2 y hy; omega
  have hge : fmax g m s ≤ fmax f l s := by
    rcases b3 with h | ⟨y, hy, h⟩
    · omega
    · obtain ⟨x, hx, e⟩ := h2 y hy
      have := a2 x hx; omega
  omega
/-- how many forces are at least a limit -/
def aboveS (c : List Int) (limit : Int) : Nat := c.countP fun f => decide (limit ≤ f)
def askN (a : Blow → Int → Bool) (bl : List Blow) (c : List Int) : Nat := (bl.zip c).countP fun p => a p.1 p.2
theorem addS_getD {ms : List Meter} {a : Blow → Int → Bool} {x : List Int} {b : Blow} {f : Int} {j : Nat} (hj : j < 6) : (addS ms a x b f).getD j 0 = x.getD j 0 + (if j = 5 then (if a b f = true then 1 else 0) else mtr ms f j) := by
  unfold addS; rw [range_getD, if_pos hj]
theorem readS_five {ms : List Meter} {a : Blow → Int → Bool} : ∀ (bl : List Blow) (c x : List Int), (readS ms a bl c x).getD 5 0 = x.getD 5 0 + (askN a bl c : Int)
  | [], c, x => by cases c <;> simp [readS, askN]
  | b :: bl, [], x => by simp [readS, askN]
  | b :: bl, f :: c, x => by
    have ih := readS_five (ms := ms) (a := a) bl c (addS ms a x b f)
    rw [readS, ih, addS_getD (by omega), if_pos rfl]
    simp only [askN, List.zip_cons_cons, List.countP_cons]
    cases a b f <;> simp <;> omega
theorem readS_j {ms : List Meter} {a : Blow → Int → Bool} {j : Nat} (hj : j < 5) {m : Meter} (hm : ms[j]? = some m) : ∀ (bl : List Blow) (c x : List Int), c.length = bl.length → (readS ms a bl c x).getD j 0 = x.getD j 0 + (aboveS c m.Limit : Int)
  | [], c, x, h => by cases c <;> simp_all [readS, aboveS]
  | b :: bl, [], x, h => by simp at h
  | b :: bl, f :: c, x, h => by
    have ih := readS_j (ms := ms) (a := a) hj hm bl c (addS ms a x b f) (by simpa using h)
    rw [readS, ih, addS_getD (by omega), if_neg (by omega), mtr_some hm]
    simp only [aboveS, List.countP_cons]
    by_cases hl : m.Limit ≤ f
    · simp [hl]; omega
    · simp [hl]
def rightC (m : Meter) (c : List Int) : Bool := (aboveS c m.Limit : Int) == m.Count
def wrongC (ms : List Meter) (c : List Int) : Nat := ms.countP fun m => !rightC m c
def truthC (r : Run) (c : List Int) : Bool := decide ((wrongC r.Meters c : Int) ≤ r.Wrong)
def truthsC (r : Run) : List (List Int) := (casesS r.Blows).filter (truthC r)
theorem zero_getD (j : Nat) : zeroX.getD j 0 = 0 := by
  match j with
  | 0 | 1 | 2 | 3 | 4 | 5 => rfl
  | j + 6 => simp [zeroX]
theorem countP_range {α : Type} (l : List α) (q : Nat → Bool) (p : α → Bool) (h : ∀ i x, l[i]? = some x → q i = p x) : (List.range l.length).countP q = l.countP p := by
  have : (List.range l.length).countP q = (List.range l.length).countP fun i => match l[i]? with | some x => p x | none => false := by
    apply List.countP_congr
    intro i hi
    have hi := List.mem_range.1 hi
    rw [h i _ (List.getElem?_eq_getElem hi), List.getElem?_eq_getElem hi]
  rw [this]
  clear this h
  induction l with
  | nil => rfl
  | cons a l ih =>
    rw [List.length_cons, List.range_succ_eq_map, List.countP_cons, List.countP_map, List.countP_cons, ← ih]
    simp [Function.comp_def]
theorem readS_at {r : Run} (hm : r.Meters.length ≤ 5) {a : Blow → Int → Bool} {c : List Int} (hc : c ∈ casesS r.Blows) {i : Nat} {m : Meter} (hi : r.Meters[i]? = some m) : (readS r.Meters a r.Blows c zeroX).getD i 0 = (aboveS c m.Limit : Int) := by
  have := (List.getElem?_eq_some_iff.1 hi).1
  rw [readS_j (by omega) hi r.Blows c zeroX (casesS_len hc), zero_getD, Int.zero_add]
theorem wrongX_read {r : Run} (hm : r.Meters.length ≤ 5) {a : Blow → Int → Bool} {c : List Int} (hc : c ∈ casesS r.Blows) : wrongX r.Meters (readS r.Meters a r.Blows c zeroX) = wrongC r.Meters c := by
  unfold wrongX wrongC
  refine countP_range _ _ _ fun i m hi => ?_
  rw [readS_at hm hc hi, hi]
  rfl
theorem rds_eq (r : Run) (a : Blow → Int → Bool) : rds r a = (casesS r.Blows).map fun c => readS r.Meters a r.Blows c zeroX := by
  unfold rds; rw [rdsF_cases]; simp
theorem trs_eq {r : Run} (hm : r.Meters.length ≤ 5) (a : Blow → Int → Bool) : trs r a = (truthsC r).map fun c => readS r.Meters a r.Blows c zeroX := by
  unfold trs truthsC
  rw [rds_eq, List.filter_map]
  congr 1
  apply List.filter_congr
  intro c hc
  simp only [Function.comp, goodX, truthC, wrongX_read hm hc]
/-- the error of what is asked -/
def errR (r : Run) (is : Bool) : Int := if checkR r ≠ 0 then checkR r else if is = false then 1 else if truthsC r = [] then 3 else 0
theorem openE_eq (r : Run) (is : Bool) (a : Blow → Int → Bool) : openE r is a = errR r is := by
  unfold openE errR
  by_cases h : checkR r = 0
  · have hr := checkR_ok.1 h
    have : (trs r a = []) = (truthsC r = []) := by rw [trs_eq hr.nm]; simp
    simp only [this]
  · rw [if_pos h, if_pos h]
theorem errR_ok {r : Run} {is : Bool} (h : errR r is = 0) : ROk r ∧ is = true ∧ truthsC r ≠ [] := by
  unfold errR at h
  split at h
  · rename_i h1; exact absurd h h1
  · rename_i h1
    split at h
    · cases h
    · rename_i h2
      split at h
      · cases h
      · rename_i h3
        exact ⟨checkR_ok.1 (by simpa using h1), by simpa using h2, h3⟩
theorem errR_true {r : Run} (hr : ROk r) : errR r true = if truthsC r = [] then 3 else 0 := by
  unfold errR
  rw [if_neg (by simpa using checkR_ok.2 hr)]
  simp
theorem cases_len {r : Run} (hr : ROk r) : (casesS r.Blows).length ≤ 100000000 := by
  have h := rds_len (d := r.Canopy) (ms := r.Meters) (a := fun _ _ => false) r.Blows [zeroX] hr.b
  have e : (rds r fun _ _ => false).length = (casesS r.Blows).length := by rw [rds_eq]; simp
  have hp : (10 : Nat) ^ r.Blows.length ≤ 10 ^ 8 := Nat.pow_le_pow_right (by omega) hr.nb
  unfold rds at e
  simp only [List.length_cons, List.length_nil] at h
  omega
theorem truths_len {r : Run} (hr : ROk r) : (truthsC r).length ≤ 100000000 := Nat.le_trans (List.length_filter_le _ _) (cases_len hr)
def manyC (r : Run) : Int × Int := if errR r true = 0 then ((truthsC r).length, 0) else (0, errR r true)
def boundsT (r : Run) (is : Bool) (a : Blow → Int → Bool) : Span × Int := if errR r is = 0 then (⟨fmin (fun c => (askN a r.Blows c : Int)) (truthsC r) r.Blows.length, fmax (fun c => (askN a r.Blows c : Int)) (truthsC r) 0⟩, 0) else (⟨0, 0⟩, errR r is)
def fellA (d : Canopy) (surely : Bool) : Blow → Int → Bool := fun b f => (standsI d [⟨f, b.At⟩] == 2) || (!surely && (standsI d [⟨f, b.At⟩] == 3))
def harmT (r : Run) : Span × Int := if errR r true = 0 then (⟨fmin (fun c => (askN (fellA r.Canopy true) r.Blows c : Int)) (truthsC r) r.Blows.length, fmax (fun c => (askN (fellA r.Canopy false) r.Blows c : Int)) (truthsC r) 0⟩, 0) else (⟨0, 0⟩, errR r true)
def stoodT (r : Run) : Int × Int := if errR r true = 0 then (if (harmT r).1.High = 0 then 1 else if 0 < (harmT r).1.Low then 2 else 3, 0) else (0, errR r true)
def blowAt (r : Run) (i : Int) : Blow := (r.Blows[i.toNat]?).getD ⟨0, ⟨0, 0⟩⟩
def fixedS (r : Run) (i : Int) (f : Int) : Run := ⟨r.Canopy, setx r.Blows i ⟨(blowAt r i).At, ⟨f, f⟩⟩, r.Meters, r.Wrong⟩
def forcesL (r : Run) (i : Int) : List Int := (span (blowAt r i).Force.Low (blowAt r i).Force.High).filter fun f => errR (fixedS r i f) true == 0
def forcesT (r : Run) (i : Int) : List Int × Int := if errR r (wi i 0 ((r.Blows.length : Int) - 1)) = 0 then (forcesL r i, 0) else ([], errR r (wi i 0 ((r.Blows.length : Int) - 1)))
section
variable {n : Nat} (hn : 100000000 ≤ n)
include hn
theorem p_openN {r : Run} (hs : SmallR r) (is : Bool) : F_counts_open n r is (fun a0_ a1_ => F_counts_none n a0_ a1_) = some (if errR r is = 0 then (some ⟨r, fun a0_ a1_ => F_counts_none n a0_ a1_⟩, tally (trs r fun _ _ => false), 0) else (none, [], errR r is)) := by
  rw [p_open hn hs is (asked := fun a0_ a1_ => F_counts_none n a0_ a1_) (a := fun _ _ => false) (fun _ _ _ _ _ _ => rfl), openE_eq]
omit hn in
theorem trs_ne {r : Run} {is : Bool} (h : errR r is = 0) (a : Blow → Int → Bool) : neM (tally (trs r a)) = some () := by
  obtain ⟨hr, _, h3⟩ := errR_ok h
  have h4 : trs r a ≠ [] := by rw [trs_eq hr.nm]; simpa using h3
  have h5 : tally (trs r a) ≠ [] := fun e => h4 ((tally_ok _).len0.1 e)
  unfold neM
  rw [if_neg (by simpa using h5)]
omit hn in
theorem many_sum (T : Mp) : ∀ (l : Mp) (s : Int), (∀ p ∈ l, 0 < p.2) → 0 ≤ s → s + (l.map (·.2)).sum ≤ 1000000000 → foldP (F_counts_Many_s1 n) s l = some (s + (l.map (·.2)).sum)
  | [], s, _, _, _ => by simp [foldP]
  | p :: l, s, h, h0, hb => by
    have hp := h p (List.mem_cons_self ..)
    have hl := sum_nonneg (l := l) fun z hz => h z (List.mem_cons_of_mem _ hz)
    simp only [List.map_cons, List.sum_cons] at hb
    obtain ⟨x, v⟩ := p
    simp only at hp hb
    rw [foldP, F_counts_Many_s1, w64_id (by omega) (by omega)]
    simp only [Option.bind_some]
    rw [many_sum T l (s + v) (fun z hz => h z (List.mem_cons_of_mem _ hz)) (by omega) (by omega)]
    simp only [List.map_cons, List.sum_cons]
    congr 1; omega
theorem p_Many {r : Run} (hs : SmallR r) : F_counts_Many n r = some (manyC r) := by
  simp only [F_counts_Many, p_openN hn hs, Option.bind_some, manyC]
  by_cases h : errR r true = 0
  · rw [if_pos h, if_pos h]
    obtain ⟨hr, _, _⟩ := errR_ok h
    have hT := tally_ok (trs r fun _ _ => false)
    have hlen : (trs r fun _ _ => false).length = (truthsC r).length := by rw [trs_eq hr.nm]; simp
    have hP : permO (F_counts_Many_s1 n) 0 (tally (trs r fun _ _ => false)) = some ((truthsC r).length : Int) := permO_of fun l hl => by
      rw [many_sum [] l 0 (fun p hp => hT.pos p (hl.mem_iff.1 hp)) (Int.le_refl _) (by rw [sum_perm hl, hT.total, hlen]; have := truths_len hr; omega), sum_perm hl, hT.total, hlen, Int.zero_add]
    simp only [trs_ne h, Option.bind_some, hP]
    rfl
  · rw [if_neg h, if_neg h]
    have e : (errR r true != 0) = true := by simpa using h
    simp only [e, if_true]
theorem p_bounds {r : Run} (hs : SmallR r) (is : Bool) {asked : Blow → Int → Option Bool} {a : Blow → Int → Bool} (ha : ROk r → ∀ b ∈ r.Blows, ∀ f, b.Force.Low ≤ f → f ≤ b.Force.High → asked b f = some (a b f)) : F_counts_bounds n r is asked = some (boundsT r is a) := by
  simp only [F_counts_bounds, p_open hn hs is ha, openE_eq, Option.bind_some, boundsT]
  by_cases h : errR r is = 0
  · rw [if_pos h, if_pos h]
    obtain ⟨hr, _, _⟩ := errR_ok h
    have hT := tally_ok (trs r a)
    have hx : ∀ p ∈ tally (trs r a), ∃ c ∈ truthsC r, p.1 = readS r.Meters a r.Blows c zeroX := fun p hp => by
      have h1 := hT.key.1 ⟨p.2, hp⟩
      rw [trs_eq hr.nm] at h1
      obtain ⟨c, hc, e⟩ := List.mem_map.1 h1
      exact ⟨c, hc, e.symm⟩
    have hx2 : ∀ c ∈ truthsC r, ∃ v, (readS r.Meters a r.Blows c zeroX, v) ∈ tally (trs r a) := fun c hc => hT.key.2 (by rw [trs_eq hr.nm]; exact List.mem_map.2 ⟨c, hc, rfl⟩)
    have h6 : ∀ p ∈ tally (trs r a), p.1.length = 6 := fun p hp => (xok_of hr.nb p.1 (List.mem_filter.1 (hT.key.1 ⟨p.2, hp⟩)).1).1
    have hP := permO_comm (step := F_counts_bounds_s1 n) (fun s p => (min s.1 (p.1.getD 5 0), max s.2 (p.1.getD 5 0))) (fun s x y => by simp only; congr 1 <;> omega) (m := tally (trs r a)) ((r.Blows.length : Int), 0) (fun s p hp => by
      obtain ⟨x, v⟩ := p
      obtain ⟨s1, s2⟩ := s
      have hl := h6 _ hp
      simp only at hl
      have e : geti x 5 = some (x.getD 5 0) := by
        have := geti_nat x 5
        rw [show ((5 : Nat) : Int) = 5 from rfl] at this
        rw [this, List.getD_eq_getElem?_getD, List.getElem?_eq_getElem (by omega)]
        rfl
      simp only [F_counts_bounds_s1, e, Option.bind_some])
    rw [foldl_pair (fun s (p : List Int × Int) => min s (p.1.getD 5 0)) (fun s (p : List Int × Int) => max s (p.1.getD 5 0))] at hP
    have f1 : (tally (trs r a)).foldl (fun s (p : List Int × Int) => min s (p.1.getD 5 0)) (r.Blows.length : Int) = fmin (fun c => (askN a r.Blows c : Int)) (truthsC r) r.Blows.length := by
      refine fmin_eq (f := fun p : List Int × Int => p.1.getD 5 0) (fun p hp => ?_) (fun c hc => ?_) _
      · obtain ⟨c, hc, e⟩ := hx p hp
        exact ⟨c, hc, by rw [e, readS_five, zero_getD, Int.zero_add]⟩
      · obtain ⟨v, hv⟩ := hx2 c hc
        exact ⟨_, hv, by simp only; rw [readS_five, zero_getD, Int.zero_add]⟩
    have f2 : (tally (trs r a)).foldl (fun s (p : List Int × Int) => max s (p.1.getD 5 0)) 0 = fmax (fun c => (askN a r.Blows c : Int)) (truthsC r) 0 := by
      refine fmax_eq (f := fun p : List Int × Int => p.1.getD 5 0) (fun p hp => ?_) (fun c hc => ?_) _
      · obtain ⟨c, hc, e⟩ := hx p hp
        exact ⟨c, hc, by rw [e, readS_five, zero_getD, Int.zero_add]⟩
      · obtain ⟨v, hv⟩ := hx2 c hc
        exact ⟨_, hv, by simp only; rw [readS_five, zero_getD, Int.zero_add]⟩
    rw [f1, f2] at hP
    simp only [bne_self_eq_false, Bool.false_eq_true, if_false, trs_ne h, Option.bind_some, hP]
  · rw [if_neg h, if_neg h]
    have e : (errR r is != 0) = true := by simpa using h
    simp only [e, if_true]
omit hn in
theorem stands_at {d : Canopy} (hd : DOk d) {b : Blow} (hb : BlOk d b) {f : Int} (h1 : b.Force.Low ≤ f) (h2 : f ≤ b.Force.High) : GOk d.Ribs.length ⟨f, b.At⟩ := by
  have := hb.lo; have := hb.hi
  have h3 := hb.at_
  exact ⟨by simp only; omega, by simp only; omega⟩
omit hn in
theorem standsT_at {d : Canopy} (hd : DOk d) {g : Gust} (hg : GOk d.Ribs.length g) : standsT d [g] = (standsI d [g], 0) := by
  unfold standsT
  rw [if_pos (askG_ok.2 ⟨hd, by simp, fun x hx => by rw [List.mem_singleton.1 hx]; exact hg⟩)]
theorem p_asked {r : Run} (hr : ROk r) (surely : Bool) : ∀ b ∈ r.Blows, ∀ f, b.Force.Low ≤ f → f ≤ b.Force.High → F_asked n r.Canopy surely b f = some (fellA r.Canopy surely b f) := fun b hb f h1 h2 => by
  have hbo := hr.b b hb
  have := hbo.lo; have := hbo.hi; have h3 := hbo.at_; have := hr.d.r
  have hk : kok 2 [f, b.At] = some () := kok_ok ⟨rfl, fun x hx => by
    simp only [List.mem_cons, List.not_mem_nil, or_false] at hx
    rcases hx with rfl | rfl <;> omega⟩
  simp only [F_asked, hk, Option.bind_some, p_Stands hn hr.d.small (l := [Gust.mk f b.At]) (by simp), standsT_at hr.d (stands_at hr.d hbo h1 h2), fellA]
theorem p_Harm {r : Run} (hs : SmallR r) : F_counts_Harm n r = some (harmT r) := by
  have b1 := p_bounds hn hs true (asked := F_asked n r.Canopy true) (a := fellA r.Canopy true) (fun hr => p_asked hn hr true)
  have b2 := p_bounds hn hs true (asked := F_asked n r.Canopy false) (a := fellA r.Canopy false) (fun hr => p_asked hn hr false)
  simp only [F_counts_Harm, b1, b2, Option.bind_some, harmT, boundsT]
  by_cases h : errR r true = 0
  · simp only [h, if_true, bne_self_eq_false, Bool.false_eq_true, if_false]
  · have e : (errR r true != 0) = true := by simpa using h
    simp only [h, if_false, e, if_true]
theorem p_Stood {r : Run} (hs : SmallR r) : F_counts_Stood n r = some (stoodT r) := by
  simp only [F_counts_Stood, p_Harm hn hs, Option.bind_some, stoodT]
  by_cases h : errR r true = 0
  · have e : (harmT r).2 = 0 := by unfold harmT; rw [if_pos h]
    rw [if_pos h, e]
    simp only [bne_self_eq_false, Bool.false_eq_true, if_false]
    by_cases h1 : (harmT r).1.High = 0
    · simp [h1]
    · have : ((harmT r).1.High == 0) = false := by simpa using h1
      rw [if_neg h1, this]
      by_cases h2 : 0 < (harmT r).1.Low <;> simp [h2]
  · have e : (harmT r).2 = errR r true := by unfold harmT; rw [if_neg h]
    have e2 : (errR r true != 0) = true := by simpa using h
    rw [if_neg h, e, e2]; rfl
end
end Go.Proofs.YtcipdblhopffbaaGreat
end
section
namespace Go.Proofs.YtcipdblhopffbaaGreat
open Go Go.RowKit Go.Dec
set_option linter.unusedVariables false
theorem mem_cases : ∀ {bl : List Blow} {c : List Int}, c ∈ casesS bl ↔ c.length = bl.length ∧ ∀ (i : Nat) (b : Blow) (x : Int), bl[i]? = some b → c[i]? = some x → b.Force.Low ≤ x ∧ x ≤ b.Force.High
  | [], c => by
    constructor
    · intro h; simp [casesS] at h; subst h; simp
    · rintro ⟨h, _⟩
      have : c = [] := List.eq_nil_of_length_eq_zero h
      subst this; simp [casesS]
  | b :: bl, c => by
    simp only [casesS, List.mem_flatMap, List.mem_map]
    constructor
    · rintro ⟨f, hf, c', hc, rfl⟩
      obtain ⟨h1, h2⟩ := mem_cases.1 hc
      refine ⟨by simp [h1], fun i b' x hb hx => ?_⟩
      cases i with
      | zero =>
        simp only [List.getElem?_cons_zero, Option.some.injEq] at hb hx
        subst hb; subst hx
        exact span_mem'.1 hf
      | succ i =>
        simp only [List.getElem?_cons_succ] at hb hx
        exact h2 i b' x hb hx
    · rintro ⟨h1, h2⟩
      cases c with
      | nil => simp at h1
      | cons f c =>
        refine ⟨f, span_mem'.2 (h2 0 b f rfl rfl), c, mem_cases.2 ⟨by simpa using h1, fun i b' x hb hx => h2 (i + 1) b' x (by simpa using hb) (by simpa using hx)⟩, rfl⟩
theorem blowAt_of {r : Run} {i : Int} {b : Blow} (h : r.Blows[i.toNat]? = some b) : blowAt r i = b := by unfold blowAt; rw [h]; rfl
theorem fixed_ok {r : Run} (hr : ROk r) {i : Int} (h0 : 0 ≤ i) (h1 : i < r.Blows.length) {f : Int} (hf1 : (blowAt r i).Force.Low ≤ f) (hf2 : f ≤ (blowAt r i).Force.High) : ROk (fixedS r i f) := by
  have hi : i.toNat < r.Blows.length := by omega
  have e : r.Blows[i.toNat]? = some r.Blows[i.toNat] := List.getElem?_eq_getElem hi
  have hb := hr.b _ (List.getElem_mem hi)
  rw [blowAt_of e] at hf1 hf2
  refine ⟨hr.d, by simpa [fixedS, setx] using hr.nb, hr.nm, fun b h => ?_, hr.m, hr.w⟩
  simp only [fixedS, setx] at h
  rcases List.mem_or_eq_of_mem_set h with h | rfl
  · exact hr.b b h
  · have := hb.lo; have := hb.hi
    exact ⟨by simp only [blowAt_of e]; exact hb.at_, by simp only; omega, by simp only; omega, by simp only; omega, by simp only; omega⟩
theorem fixed_cases {r : Run} {i : Int} (h0 : 0 ≤ i) (h1 : i < r.Blows.length) {f : Int} (hf1 : (blowAt r i).Force.Low ≤ f) (hf2 : f ≤ (blowAt r i).Force.High) {c : List Int} : c ∈ casesS (fixedS r i f).Blows ↔ c ∈ casesS r.Blows ∧ c[i.toNat]? = some f := by
  have hi : i.toNat < r.Blows.length := by omega
  have e : r.Blows[i.toNat]? = some r.Blows[i.toNat] := List.getElem?_eq_getElem hi
  rw [mem_cases, mem_cases]
  simp only [fixedS, setx, List.length_set]
  rw [blowAt_of e] at hf1 hf2 ⊢
  constructor
  · rintro ⟨hl, h⟩
    have hf : c[i.toNat]? = some f := by
      have hc : c[i.toNat]? = some (c[i.toNat]'(by omega)) := List.getElem?_eq_getElem (by omega)
      have := h i.toNat ⟨r.Blows[i.toNat].At, ⟨f, f⟩⟩ _ (by rw [List.getElem?_set, if_pos rfl, if_pos hi]) hc
      simp only at this
      rw [hc]; congr 1; omega
    refine ⟨⟨hl, fun j b x hb hx => ?_⟩, hf⟩
    by_cases hj : i.toNat = j
    · subst hj
      rw [e] at hb; cases hb
      rw [hf] at hx; cases hx
      exact ⟨hf1, hf2⟩
    · exact h j b x (by rw [List.getElem?_set_ne hj]; exact hb) hx
  · rintro ⟨⟨hl, h⟩, hf⟩
    refine ⟨hl, fun j b x hb hx => ?_⟩
    by_cases hj : i.toNat = j
    · subst hj
      rw [List.getElem?_set, if_pos rfl, if_pos hi] at hb
      cases hb
      rw [hf] at hx; cases hx
      exact ⟨Int.le_refl _, Int.le_refl _⟩
    · rw [List.getElem?_set_ne hj] at hb
      exact h j b x hb hx
theorem fixed_truths {r : Run} {i : Int} (h0 : 0 ≤ i) (h1 : i < r.Blows.length) {f : Int} (hf1 : (blowAt r i).Force.Low ≤ f) (hf2 : f ≤ (blowAt r i).Force.High) {c : List Int} : c ∈ truthsC (fixedS r i f) ↔ c ∈ truthsC r ∧ c[i.toNat]? = some f := by
  unfold truthsC
  rw [List.mem_filter, List.mem_filter, fixed_cases h0 h1 hf1 hf2]
  constructor
  · rintro ⟨⟨a, b⟩, c⟩; exact ⟨⟨a, c⟩, b⟩
  · rintro ⟨⟨a, c⟩, b⟩; exact ⟨⟨a, b⟩, c⟩
theorem fixed_err {r : Run} (hr : ROk r) {i : Int} (h0 : 0 ≤ i) (h1 : i < r.Blows.length) {f : Int} (hf1 : (blowAt r i).Force.Low ≤ f) (hf2 : f ≤ (blowAt r i).Force.High) : errR (fixedS r i f) true = 0 ↔ ∃ c ∈ truthsC r, c[i.toNat]? = some f := by
  rw [errR_true (fixed_ok hr h0 h1 hf1 hf2)]
  constructor
  · intro h
    split at h
    · cases h
    · rename_i hne
      obtain ⟨c, hc⟩ := List.exists_mem_of_ne_nil _ hne
      exact ⟨c, (fixed_truths h0 h1 hf1 hf2).1 hc⟩
  · rintro ⟨c, hc⟩
    rw [if_neg (fun e => by have := (fixed_truths h0 h1 hf1 hf2).2 hc; rw [e] at this; cases this)]
theorem truth_case {r : Run} {c : List Int} (h : c ∈ truthsC r) : c ∈ casesS r.Blows := (List.mem_filter.1 h).1
section
variable {n : Nat} (hn : 100000000 ≤ n)
include hn
theorem p_fixed {r : Run} (hs : SmallR r) {i : Int} (h0 : 0 ≤ i) (h1 : i < r.Blows.length) (f : Int) : F_counts_fixed n r i f = some (fixedS r i f) := by
  have _hn := hn
  have hi : i.toNat < r.Blows.length := by omega
  have e : r.Blows[i.toNat]? = some r.Blows[i.toNat] := List.getElem?_eq_getElem hi
  have hg : geti r.Blows i = some r.Blows[i.toNat] := by unfold geti; rw [if_pos h0, e]
  have hl : F_slices_Clone___api_Blow_api_Blow_ n r.Blows = some r.Blows := lim_ok (by have := hs.2.1; omega)
  simp only [F_counts_fixed, hl, Option.bind_some, hg, fixedS, blowAt_of e]
theorem p_Forces {r : Run} (hs : SmallR r) (i : Int) : F_counts_Forces n r i = some (forcesT r i) := by
  simp only [F_counts_Forces, p_cwithin, Option.bind_some]
  rw [w64_id (by have := hs.2.1; omega) (by have := hs.2.1; omega)]
  simp only [p_openN hn hs, Option.bind_some, forcesT]
  by_cases h : errR r (wi i 0 ((r.Blows.length : Int) - 1)) = 0
  · rw [if_pos h, if_pos h]
    obtain ⟨hr, hw, hne⟩ := errR_ok h
    have hi := wi_t.1 hw
    have h1 : i < r.Blows.length := by omega
    have hi' : i.toNat < r.Blows.length := by omega
    have e : r.Blows[i.toNat]? = some r.Blows[i.toNat] := List.getElem?_eq_getElem hi'
    have hg : geti r.Blows i = some (blowAt r i) := by unfold geti; rw [if_pos hi.1, e, blowAt_of e]
    have hb := hr.b _ (List.getElem_mem hi')
    rw [← blowAt_of e] at hb
    have hlo := hb.lo; have hhi := hb.hi; have hgap := hb.gap
    have hl := loop_span_fold (step := F_counts_Forces_s1 n r i) (fun f (out : List Int) => (f, out)) (fun out f => if (errR (fixedS r i f) true == 0) = true then out ++ [f] else out) (fun out => out) (fun f out => (out.length : Int) ≤ f - (blowAt r i).Force.Low) (hi := (blowAt r i).Force.High) _ (blowAt r i).Force.Low [] n rfl (by simp) (fun f out h2 h3 hI => by
      have hsF : SmallR (fixedS r i f) := ⟨hs.1, by simpa [fixedS, setx] using hs.2.1, hs.2.2⟩
      simp only [F_counts_Forces_s1, hg, Option.bind_some, h3, decide_true, if_true, p_fixed hn hs hi.1 h1, p_openN hn hsF]
      rw [w64_id (by omega) (by omega)]
      by_cases he : errR (fixedS r i f) true = 0
      · have hlim : lim (out ++ [f]) = some (out ++ [f]) := lim_ok (by simp; omega)
        simp only [he, if_true, beq_self_eq_true, hlim, Option.bind_some]
        refine ⟨by first | rfl | trivial, ?_⟩
        rw [List.length_append]; simp; omega
      · have e2 : (errR (fixedS r i f) true == 0) = false := by simpa using he
        simp only [he, if_false, e2, Bool.false_eq_true, Option.bind_some]
        exact ⟨by first | rfl | trivial, by omega⟩) (fun f out h2 h3 hI => by
      simp only [F_counts_Forces_s1, hg, Option.bind_some]
      rw [show decide (f ≤ (blowAt r i).Force.High) = false from decide_eq_false (by omega)]
      rfl) (by omega)
    simp only [bne_self_eq_false, Bool.false_eq_true, if_false, hg, Option.bind_some, hl.1, foldl_filter_append, List.nil_append]
    rfl
  · rw [if_neg h, if_neg h]
    have e : (errR r (wi i 0 ((r.Blows.length : Int) - 1)) != 0) = true := by simpa using h
    simp only [e, if_true]
omit hn in
theorem sameI_spec (a b : List Int) : (decide (a.length = b.length) && (List.range a.length).all fun i => a[i]? == b[i]?) = decide (a = b) := by
  rw [Bool.eq_iff_iff]
  simp only [Bool.and_eq_true, decide_eq_true_eq, List.all_eq_true, List.mem_range, beq_iff_eq]
  constructor
  · rintro ⟨h1, h2⟩
    apply List.ext_getElem?
    intro i
    by_cases hi : i < a.length
    · exact h2 i hi
    · rw [List.getElem?_eq_none (by omega), List.getElem?_eq_none (by omega)]
  · rintro rfl; exact ⟨rfl, fun _ _ => rfl⟩
theorem p_sameI {a b : List Int} (ha : a.length ≤ 1000) : F_law13_sameInts n a b = some (decide (a = b)) := by
  rw [← sameI_spec]
  unfold F_law13_sameInts
  by_cases h : a.length = b.length
  · have e : ((a.length : Int) != (b.length : Int)) = false := by simp [h]
    rw [e]
    simp only [Bool.false_eq_true, if_false]
    have kk := loop_all (step := F_law13_sameInts_s1 n a b) a.length (fun i => a[i]? == b[i]?) false (n := n) (by omega) (fun i hi => ?_) ?_ (by omega)
    · rw [kk]
      cases ((List.range a.length).all fun i => a[i]? == b[i]?) <;> simp [h]
    · have h1 : a[i]? = some a[i] := List.getElem?_eq_getElem hi
      have h2 : b[i]? = some (b[i]'(by omega)) := List.getElem?_eq_getElem (by omega)
      simp only [F_law13_sameInts_s1, lt_nat, hi, decide_true, if_true, geti_nat, h1, h2, Option.bind_some, w64_nat (show i ≤ 4611686018427387904 by omega)]
      by_cases hab : a[i] = b[i]'(by omega)
      · simp [hab]
      · have e1 : (a[i] != b[i]'(by omega)) = true := by simpa using hab
        have e2 : (a[i] == b[i]'(by omega)) = false := by simpa using hab
        simp [e1, hab, e2]
    · simp [F_law13_sameInts_s1]
  · have e : ((a.length : Int) != (b.length : Int)) = true := by simp; omega
    rw [e]; simp [h]
theorem p_Copy13 {r : Run} (hs : SmallR r) : F_ref13_Copy n r = some r := by
  simp only [F_ref13_Copy, p_Copy05 hn hs.1, Option.bind_some, List.nil_append]
  rw [lim_ok (by have := hs.2.1; omega), lim_ok (by have := hs.2.2; omega)]
  rfl
theorem p_Far13 (r : Run) : F_law13_Far n r = some true ∨ (F_law13_Far n r = some false ∧ SmallR r ∧ r.Blows.length ≤ 40 ∧ r.Meters.length ≤ 40) := by
  unfold F_law13_Far
  rcases p_Far hn r.Canopy with h | ⟨h, hs, h1, h2, h3⟩
  · left; rw [h]; rfl
  · rw [h]
    simp only [Option.bind_some, Bool.false_or]
    by_cases h4 : 40 < (r.Blows.length : Int)
    · left; simp [h4]
    · by_cases h5 : 40 < (r.Meters.length : Int)
      · left; simp [h5]
      · have hsr : SmallR r := ⟨hs, by omega, by omega⟩
        have e4 : decide (40 < (r.Blows.length : Int)) = false := decide_eq_false h4
        have e5 : decide (40 < (r.Meters.length : Int)) = false := decide_eq_false h5
        simp only [e4, e5, Bool.false_or, Bool.false_eq_true, if_false, p_Check13 hn hsr, Option.bind_some]
        by_cases h6 : checkR r = 0
        · have hr := checkR_ok.1 h6
          have e6 : (checkR r != 0) = false := by simp [h6]
          rw [e6]
          simp only [Bool.false_eq_true, if_false]
          have key : ∀ (k i : Nat) (m : Int) (fuel : Nat), i + k = r.Blows.length → 1 ≤ m → m ≤ 600 → k < fuel → ∃ v, loopO fuel (F_law13_Far_s1 n r) (m, (i : Int)) = some v ∧ (v = .inl true ∨ v = .inr ()) := by
            intro k
            induction k with
            | zero =>
              intro i m fuel hi _ _ hf
              refine ⟨.inr (), loop_done ?_ hf, .inr rfl⟩
              have : i = r.Blows.length := by omega
              subst this
              simp [F_law13_Far_s1]
            | succ k ih =>
              intro i m fuel hi h1 h2 hf
              obtain ⟨fuel, rfl⟩ : ∃ k, fuel = k + 1 := ⟨fuel - 1, by omega⟩
              have hlt : i < r.Blows.length := by omega
              have e : r.Blows[i]? = some r.Blows[i] := List.getElem?_eq_getElem hlt
              have hb := hr.b _ (List.getElem_mem hlt)
              have hg := hb.gap; have hle := hb.le; have := hb.lo; have := hb.hi
              have hm1 := mul_in (x := m) (y := r.Blows[i].Force.High - r.Blows[i].Force.Low + 1) (A := 600) (C := 10) (by omega) h2 (by omega) (by omega)
              have hm2 : 1 ≤ m * (r.Blows[i].Force.High - r.Blows[i].Force.Low + 1) := by
                have := Int.mul_le_mul h1 (show 1 ≤ r.Blows[i].Force.High - r.Blows[i].Force.Low + 1 by omega) (by omega) (by omega)
                omega
              rw [loopO_succ]
              simp only [F_law13_Far_s1, lt_nat, hlt, decide_true, if_true, geti_nat, e, Option.bind_some]
              rw [w64_id (n := r.Blows[i].Force.High - r.Blows[i].Force.Low) (by omega) (by omega), w64_id (n := r.Blows[i].Force.High - r.Blows[i].Force.Low + 1) (by omega) (by omega), w64_id (by omega) (by omega), w64_nat (show i ≤ 4611686018427387904 by have := hr.nb; omega)]
              by_cases hbig : 600 < m * (r.Blows[i].Force.High - r.Blows[i].Force.Low + 1)
              · rw [if_pos (by simpa using hbig)]
                exact ⟨_, rfl, .inl rfl⟩
              · rw [if_neg (by simpa using hbig)]
                exact ih (i + 1) _ fuel (by omega) hm2 (by omega) (by omega)
          obtain ⟨v, hv, hv2⟩ := key r.Blows.length 0 1 n (by omega) (by omega) (by omega) (by have := hr.nb; omega)
          simp only [Int.natCast_zero] at hv
          rw [hv]
          rcases hv2 with rfl | rfl
          · left; rfl
          · right; exact ⟨rfl, hsr, by omega, by omega⟩
        · right
          have e6 : (checkR r != 0) = true := by simpa using h6
          rw [e6]
          exact ⟨rfl, hsr, by omega, by omega⟩
end
def exR : Run := ⟨exD, [⟨0, ⟨10, 14⟩⟩, ⟨0, ⟨12, 15⟩⟩, ⟨3, ⟨4, 6⟩⟩], [⟨13, 1⟩, ⟨5, 3⟩], 0⟩
set_option maxRecDepth 1000000 in
theorem ex_small : SmallR exR := by refine ⟨⟨?_, ?_, ?_⟩, ?_, ?_⟩ <;> decide
set_option maxRecDepth 1000000 in
theorem ex_forces : forcesT exR 2 = ([5, 6], 0) := by kernel_rfl
set_option maxRecDepth 1000000 in
theorem ex_many : manyC exR = (22, 0) := by kernel_rfl
set_option maxRecDepth 1000000 in
theorem ex_harm : harmT exR = (⟨0, 2⟩, 0) := by kernel_rfl
theorem ex_err : errR exR true = 0 := by
  have h := ex_many
  unfold manyC at h
  split at h
  · assumption
  · rename_i hne
    simp only [Prod.mk.injEq] at h
    exact absurd h.2 hne
theorem ex_stood : stoodT exR = (3, 0) := by
  unfold stoodT
  rw [if_pos ex_err, ex_harm]; rfl
theorem ex_of (n : Nat) : F_law13_Example n = some exR := rfl
theorem works13 {n : Nat} (hn : 100000000 ≤ n) : F_law13_works n = some true := by
  simp only [F_law13_works, ex_of, Option.bind_some, p_Forces hn ex_small, p_Many hn ex_small, p_Harm hn ex_small, p_Stood hn ex_small, ex_forces, ex_many, ex_harm, ex_stood, p_sameI hn (a := [5, 6]) (b := [5, 6]) (by decide)]
  rfl
end Go.Proofs.YtcipdblhopffbaaGreat
end
section
namespace Go.Proofs.YtcipdblhopffbaaGreat
open Go Go.RowKit Go.Dec
set_option linter.unusedVariables false
theorem askN_le (a : Blow → Int → Bool) (bl : List Blow) (c : List Int) : askN a bl c ≤ bl.length := by
  unfold askN
  refine Nat.le_trans List.countP_le_length ?_
  rw [List.length_zip]; omega
theorem harm_err (r : Run) : (harmT r).2 = errR r true := by
  unfold harmT
  split
  · rename_i h; exact h.symm
  · rfl
end Go.Proofs.YtcipdblhopffbaaGreat
end
