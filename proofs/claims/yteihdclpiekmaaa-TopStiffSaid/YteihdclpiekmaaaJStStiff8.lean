/-
  TopStiff holds of every input that can be given, without a condition.
-/
import Derived.Test.YteihdclpiekmaaaJStStiff7
import Derived.OpenShut
import Derived.JoinedCond
section
namespace Go.Proofs.Yteihdclpiekmaaa
open Go Go.RowKit Go.Dec
def boltOf (d : Dome) (g : Int) : List Int := (d.Bolts.map numL)[g.toNat]?.getD []
def movesL (f : Figure) : List (List Int) := f.Dome.Gores.map fun g => (boltOf f.Dome g).map fun by_ => (pullS f.Run by_).tmod f.Period
def farS (P a b : Int) : Int := min ((a - b) % P) ((b - a) % P)
def meetsI (P : Int) (l : List Int) (later near : Int) : Int := if (l.countP (fun m => decide (farS P m later ≤ near)) : Int) == (l.length : Int) then 1 else if (l.countP (fun m => decide (farS P m later ≤ near)) : Int) == 0 then 2 else 3
def stepL (P near : Int) (l : List Int) : List Int := (span 0 (P - 1)).filter fun later => meetsI P l later near == 1
def nextL (P : Int) (T : Mp) (l : List Int) : List (List Int) := T.flatMap fun p => l.map fun b => [(p.1.headD 0 + b) % P]
def nextT (P : Int) (T : Mp) (l : List Int) : Mp := tally (nextL P T l)
def finalT (P : Int) (Ls : List (List Int)) : Mp := Ls.foldl (nextT P) [([0], 1)]
def closedB (P : Int) (moves : List (List Int)) (near : Int) : Bool := decide (0 < mget (finalT P (moves.map (stepL P near))) [0])
theorem mod_eq {P x : Int} (hP : 1 ≤ P ∧ P ≤ 60) : (w64 ((x.tmod P) + P)).tmod P = x % P := by
  have h1 := Int.tmod_lt_of_pos x (show 0 < P by omega)
  have h2 : -P < x.tmod P := by
    exact Int.lt_tmod_of_pos x (show 0 < P by omega)
  rw [w64_id (by omega) (by omega), Int.tmod_eq_emod_of_nonneg (by omega), Int.tmod_def]
  have : x - P * x.tdiv P + P = x + P * (1 - x.tdiv P) := by rw [Int.mul_sub]; omega
  rw [this, Int.add_mul_emod_self_left]
/-- a figure's moves, and what is so of them -/
structure RV' (r : seams_ring) : Prop where
  p : 1 ≤ r.Figure.Period ∧ r.Figure.Period ≤ 60
  n : r.moves.length ≤ 16
  m : ∀ l ∈ r.moves, l.length ≤ 61 ∧ l ≠ [] ∧ ∀ x ∈ l, 0 ≤ x ∧ x < r.Figure.Period
/-- keys of one number -/
def Keys (P : Int) (T : Mp) : Prop := ∀ p ∈ T, ∃ k, p.1 = [k] ∧ 0 ≤ k ∧ k < P
theorem next_keys {P : Int} (hP : 0 < P) (T : Mp) (l : List Int) : Keys P (nextT P T l) := fun p hp => by
  have := ((tally_ok (nextL P T l)).mem.1 hp).2
  unfold nextL at this
  obtain ⟨q, _, h2⟩ := List.mem_flatMap.1 this
  obtain ⟨b, _, e⟩ := List.mem_map.1 h2
  exact ⟨_, e.symm, Int.emod_nonneg _ (by omega), Int.emod_lt_of_pos _ hP⟩
theorem nextL_len (P : Int) (T : Mp) (l : List Int) : (nextL P T l).length ≤ T.length * l.length :=
  flatMap_le (l := T) (f := fun (p : List Int × Int) => l.map fun b => [(p.1.headD 0 + b) % P]) (c := l.length) fun x _ => by simp
theorem next_len (P : Int) (T : Mp) (l : List Int) : (nextT P T l).length ≤ T.length * l.length := by
  have h1 := (len_le (tally_ok (nextL P T l))).1
  have h2 := nextL_len P T l
  exact Nat.le_trans h1 h2
section
variable {n : Nat} (hn : 200000000 ≤ n)
include hn
omit hn in
theorem p_modulo (n : Nat) {r : seams_ring} (h : RV' r) (x : Int) : F_seams_ring_modulo n r x = some (x % r.Figure.Period) := by
  have hp := h.p
  simp only [F_seams_ring_modulo, nz_of (show r.Figure.Period ≠ 0 by omega), Option.bind_some, mod_eq hp]
omit hn in
theorem p_far (n : Nat) {r : seams_ring} (h : RV' r) {a b : Int} (ha : -1000 ≤ a ∧ a ≤ 1000) (hb : -1000 ≤ b ∧ b ≤ 1000) : F_seams_ring_far n r a b = some (farS r.Figure.Period a b) := by
  simp only [F_seams_ring_far, p_modulo n h, Option.bind_some]
  rw [w64_id (n := a - b) (by omega) (by omega), w64_id (n := b - a) (by omega) (by omega)]
  rfl
theorem p_meets {r : seams_ring} (h : RV' r) {i : Nat} {l : List Int} (hi : r.moves[i]? = some l) {later : Int} (hl : -1000 ≤ later ∧ later ≤ 1000) (near : Int) : F_seams_ring_meets n r (i : Int) later near = some (meetsI r.Figure.Period l later near) := by
  obtain ⟨hm1, hm2, hm3⟩ := h.m l (List.mem_of_getElem? hi)
  have hp := h.p
  have hloop := loop_fold (step := F_seams_ring_meets_s1 n r later near l) l (fun i (k : Nat) => ((k : Int), (i : Int))) (fun k m => if decide (farS r.Figure.Period m later ≤ near) = true then k + 1 else k) (fun k => (k : Int)) (fun i k => k ≤ i) (n := n) 0 (Nat.le_refl _) (fun j m k hf hk => by
    have hj : j < l.length := (List.getElem?_eq_some_iff.1 hf).1
    have hmb := hm3 m (List.mem_of_getElem? hf)
    simp only [F_seams_ring_meets_s1, lt_nat, hj, decide_true, if_true, geti_nat, hf, Option.bind_some, p_far n h (a := m) (b := later) (by omega) hl, w64_nat (show j ≤ 4611686018427387904 by omega), w64_nat (show k ≤ 4611686018427387904 by omega)]
    cases decide (farS r.Figure.Period m later ≤ near)
    · simp only [Bool.false_eq_true, if_false, Option.bind_some]; exact ⟨trivial, by omega⟩
    · simp only [if_true, Option.bind_some]; exact ⟨trivial, by omega⟩) (fun k hk => by
    simp [F_seams_ring_meets_s1]) (by omega)
  have h1 := hloop.1
  rw [foldl_cnt (fun m => decide (farS r.Figure.Period m later ≤ near)), Nat.zero_add] at h1
  simp only [F_seams_ring_meets, geti_nat, hi, Option.bind_some]
  rw [show ((0 : Int), (0 : Int)) = (((0 : Nat) : Int), ((0 : Nat) : Int)) from rfl, h1]
  simp only [Option.bind_some, meetsI]
  split
  · rfl
  · split <;> rfl
theorem p_steps {r : seams_ring} (h : RV' r) (near : Int) : F_seams_ring_steps n r near = some (r.moves.map (stepL r.Figure.Period near)) := by
  have hp := h.p
  have hmn := h.n
  have hmk : mkn (r.moves.length : Int) = some () := by unfold mkn; rw [if_pos ⟨by omega, by omega⟩]
  have key := loop_run (step := F_seams_ring_steps_s1 n r near) (fun j => ((j : Int), (r.moves.take j).map (stepL r.Figure.Period near) ++ List.replicate (r.moves.length - j) [])) (r := r.moves.map (stepL r.Figure.Period near)) r.moves.length 0 n (fun j _ hj => by
    have hj : j < r.moves.length := by omega
    obtain ⟨l, hl⟩ : ∃ l, r.moves[j]? = some l := ⟨_, List.getElem?_eq_getElem hj⟩
    have hlen : ((r.moves.take j).map (stepL r.Figure.Period near)).length = j := by rw [List.length_map, List.length_take]; omega
    have hget : geti ((r.moves.take j).map (stepL r.Figure.Period near) ++ List.replicate (r.moves.length - j) []) (j : Int) = some [] := by
      rw [geti_nat, List.getElem?_append_right (by omega), hlen, Nat.sub_self, List.getElem?_replicate, if_pos (by omega)]
    have hin := loop_span (step := F_seams_ring_steps_s2 n r near (j : Int)) (hi := r.Figure.Period - 1) (fun s x => if (meetsI r.Figure.Period l x near == 1) = true then s ++ [x] else s) (fun s => s) (fun x s => 0 ≤ x ∧ s.length ≤ x.toNat) _ 0 [] n rfl ⟨by omega, by simp⟩ (fun x s k1 k2 hI => by
      have hlim : lim (s ++ [x]) = some (s ++ [x]) := lim_ok (by rw [List.length_append, List.length_singleton]; omega)
      have hw : w64 (x + 1) = x + 1 := w64_id (by omega) (by omega)
      simp only [F_seams_ring_steps_s2, decide_eq_true (show x < r.Figure.Period by omega), if_true, p_meets hn h hl (later := x) (by omega) near, Option.bind_some, hlim, hw]
      cases meetsI r.Figure.Period l x near == 1
      · simp only [Bool.false_eq_true, if_false, Option.bind_some]; exact ⟨trivial, by omega, by omega⟩
      · simp only [if_true, Option.bind_some]; exact ⟨trivial, by omega, by rw [List.length_append, List.length_singleton]; omega⟩) (fun x s hx => by
      simp only [F_seams_ring_steps_s2, decide_eq_false (show ¬ x < r.Figure.Period by omega), Bool.false_eq_true, if_false]) (by omega)
    rw [foldl_filter' (fun x => meetsI r.Figure.Period l x near == 1), List.nil_append] at hin
    have hset : setx ((r.moves.take j).map (stepL r.Figure.Period near) ++ List.replicate (r.moves.length - j) []) (j : Int) (stepL r.Figure.Period near l) = (r.moves.take (j + 1)).map (stepL r.Figure.Period near) ++ List.replicate (r.moves.length - (j + 1)) [] := by
      unfold setx
      rw [Int.toNat_natCast, List.set_append_right _ _ (by omega), hlen, Nat.sub_self, List.take_add_one, hl, show r.moves.length - j = (r.moves.length - (j + 1)) + 1 by omega, List.replicate_succ, List.set_cons_zero]
      simp
    simp only [F_seams_ring_steps_s1, lt_nat, hj, decide_true, if_true, hget, Option.bind_some, hin, w64_nat (show j ≤ 4611686018427387904 by omega)]
    show some (Sum.inl (_, setx _ _ (stepL r.Figure.Period near l))) = _
    rw [hset]) (by
    rw [Nat.zero_add, List.take_length, Nat.sub_self]
    simp [F_seams_ring_steps_s1]) (by omega)
  simp only [List.take_zero, List.map_nil, List.nil_append, Nat.sub_zero, show ((0 : Nat) : Int) = 0 from rfl] at key
  simp only [F_seams_ring_steps, hmk, Option.bind_some, key]
theorem p_next {r : seams_ring} (h : RV' r) {T : Mp} (hT : Keys r.Figure.Period T) {l : List Int} (hl : ∀ x ∈ l, 0 ≤ x ∧ x < r.Figure.Period) (hsz : T.length * l.length ≤ 1000000000) (hll : l.length ≤ 1000) :
    permO (F_seams_ring_closed_s2 n r l) ([] : Mp) T = some (nextT r.Figure.Period T l) := by
  have hp := h.p
  refine permO_of fun q hq => ?_
  have key : ∀ (q d : Mp) (m : Mp), (∀ p ∈ q, p ∈ T) → (d.length + q.length) * l.length ≤ 1000000000 → RM (nextL r.Figure.Period d l) m → ∃ m', foldP (F_seams_ring_closed_s2 n r l) m q = some m' ∧ RM (nextL r.Figure.Period (d ++ q) l) m' := by
    intro q
    induction q with
    | nil => intro d m _ _ hm; exact ⟨m, rfl, by rw [List.append_nil]; exact hm⟩
    | cons p q ih =>
      intro d m hq hsz hm
      obtain ⟨k, c⟩ := p
      obtain ⟨a, rfl, ha⟩ := hT _ (hq _ (List.mem_cons_self ..))
      have hdl : (nextL r.Figure.Period d l).length ≤ d.length * l.length := nextL_len r.Figure.Period d l
      rw [List.length_cons] at hsz
      have hmul : (d.length + (q.length + 1)) * l.length = d.length * l.length + q.length * l.length + l.length := by rw [Nat.add_mul, Nat.add_mul]; omega
      have hloop := loop_fold (step := F_seams_ring_closed_s3 n r l a) l (fun i (m : Mp) => ((i : Int), m)) (fun m b => mput m [(a + b) % r.Figure.Period] (mget m [(a + b) % r.Figure.Period] + 1)) (fun m => m) (fun i m => RM (nextL r.Figure.Period d l ++ (l.take i).map fun b => [(a + b) % r.Figure.Period]) m) (n := n) m (by simpa using hm) (fun i b m hb hI => by
        have hi : i < l.length := (List.getElem?_eq_some_iff.1 hb).1
        have hbb := hl b (List.mem_of_getElem? hb)
        have hmod : 0 ≤ (a + b) % r.Figure.Period ∧ (a + b) % r.Figure.Period < r.Figure.Period := ⟨Int.emod_nonneg _ (by omega), Int.emod_lt_of_pos _ (by omega)⟩
        have hc : mget m [(a + b) % r.Figure.Period] ≤ 2000000000 ∧ 0 ≤ mget m [(a + b) % r.Figure.Period] := by
          rw [hI.get]
          have := List.count_le_length (a := [(a + b) % r.Figure.Period]) (l := nextL r.Figure.Period d l ++ (l.take i).map fun b => [(a + b) % r.Figure.Period])
          rw [List.length_append, List.length_map, List.length_take] at this
          omega
        have ht : nextL r.Figure.Period d l ++ (l.take (i + 1)).map (fun b => [(a + b) % r.Figure.Period]) = (nextL r.Figure.Period d l ++ (l.take i).map (fun b => [(a + b) % r.Figure.Period])) ++ List.replicate (1 : Int).toNat [(a + b) % r.Figure.Period] := by
          rw [List.take_add_one, hb]; simp
        refine ⟨?_, by rw [ht]; exact hI.add _ (by omega)⟩
        simp only [F_seams_ring_closed_s3, lt_nat, hi, decide_true, if_true, geti_nat, hb, Option.bind_some, w64_id (show -9223372036854775808 ≤ a + b by omega) (show a + b ≤ 9223372036854775807 by omega), p_modulo n h, kok1 (x := (a + b) % r.Figure.Period) (by omega), w64_nat (show i ≤ 4611686018427387904 by omega), w64_id (show -9223372036854775808 ≤ mget m [(a + b) % r.Figure.Period] + 1 by omega) (show mget m [(a + b) % r.Figure.Period] + 1 ≤ 9223372036854775807 by omega)]) (fun m hI => by
        simp [F_seams_ring_closed_s3]) (by omega)
      obtain ⟨h1, h2⟩ := hloop
      rw [List.take_length] at h2
      have e1 : nextL r.Figure.Period d l ++ (l.map fun b => [(a + b) % r.Figure.Period]) = nextL r.Figure.Period (d ++ [([a], c)]) l := by
        unfold nextL
        rw [List.flatMap_append]
        simp
      rw [e1] at h2
      obtain ⟨m', k1, k2⟩ := ih (d ++ [([a], c)]) _ (fun p hp => hq p (List.mem_cons_of_mem _ hp)) (by
        rw [List.length_append, List.length_singleton]
        have : (d.length + 1 + q.length) = d.length + (q.length + 1) := by omega
        rw [this]; exact hsz) h2
      refine ⟨m', ?_, by rw [List.append_assoc] at k2; exact k2⟩
      show (F_seams_ring_closed_s2 n r l m ([a], c)).bind _ = _
      have e2 : F_seams_ring_closed_s2 n r l m ([a], c) = some (l.foldl (fun m b => mput m [(a + b) % r.Figure.Period] (mget m [(a + b) % r.Figure.Period] + 1)) m) := by
        simp only [F_seams_ring_closed_s2]
        rw [show (0 : Int) = ((0 : Nat) : Int) from rfl, h1]; rfl
      rw [e2]
      exact k1
  obtain ⟨m', k1, k2⟩ := key q [] [] (fun p hp => hq.mem_iff.1 hp) (by rw [List.length_nil, Nat.zero_add, hq.length_eq]; exact hsz) RM.nil
  rw [k1]
  congr 1
  rw [List.nil_append] at k2
  have hperm : (nextL r.Figure.Period q l).Perm (nextL r.Figure.Period T l) := by unfold nextL; exact hq.flatMap_right _
  exact (k2.perm' hperm).eq
theorem p_closed {r : seams_ring} (h : RV' r) (near : Int) (hsz : r.Figure.Period.toNat ^ r.moves.length ≤ 100000) : F_seams_ring_closed n r near = some (closedB r.Figure.Period r.moves near) := by
  have hp := h.p
  have hmn := h.n
  have hk0 : kok 1 [0] = some () := kok1 (by omega)
  have hstl : ∀ l, (stepL r.Figure.Period near l).length ≤ r.Figure.Period.toNat := fun l => by
    refine Nat.le_trans (List.length_filter_le _ _) ?_
    rw [span_len]; omega
  have hloop := loop_fold (step := F_seams_ring_closed_s1 n r (r.moves.map (stepL r.Figure.Period near))) (r.moves.map (stepL r.Figure.Period near)) (fun i (m : Mp) => (m, (i : Int))) (nextT r.Figure.Period) (fun m => m) (fun i m => Keys r.Figure.Period m ∧ m.length ≤ r.Figure.Period.toNat ^ i) (n := n) [([0], 1)] ⟨fun p hp' => by rw [List.mem_singleton.1 hp']; exact ⟨0, rfl, by omega, by omega⟩, by simp⟩ (fun i l m hl hI => by
    have hi : i < (r.moves.map (stepL r.Figure.Period near)).length := (List.getElem?_eq_some_iff.1 hl).1
    rw [List.length_map] at hi
    obtain ⟨l0, hl0, rfl⟩ : ∃ l0, r.moves[i]? = some l0 ∧ stepL r.Figure.Period near l0 = l := by
      rw [List.getElem?_map] at hl
      cases hx : r.moves[i]? with
      | none => rw [hx] at hl; cases hl
      | some y => rw [hx] at hl; exact ⟨y, rfl, by simpa using hl⟩
    have hle : r.Figure.Period.toNat ^ i ≤ r.Figure.Period.toNat ^ r.moves.length := Nat.pow_le_pow_right (by omega) (by omega)
    have hm1 : m.length * (stepL r.Figure.Period near l0).length ≤ 100000 * 60 := Nat.mul_le_mul (by omega) (by have := hstl l0; omega)
    have hnx := p_next hn h hI.1 (l := stepL r.Figure.Period near l0) (fun x hx => by
      have := span_mem'.1 (List.mem_filter.1 hx).1
      omega) (by omega) (by have := hstl l0; omega)
    refine ⟨?_, next_keys (by omega) m _, ?_⟩
    · have hil : i < (r.moves.map (stepL r.Figure.Period near)).length := by rw [List.length_map]; exact hi
      simp only [F_seams_ring_closed_s1, lt_nat, hil, decide_true, if_true, geti_nat, hl, Option.bind_some, hnx, w64_nat (show i ≤ 4611686018427387904 by omega)]
    · rw [Nat.pow_succ]
      exact Nat.le_trans (next_len _ m _) (Nat.mul_le_mul hI.2 (hstl l0))) (fun m hI => by
    simp [F_seams_ring_closed_s1]) (by rw [List.length_map]; omega)
  have h1 := hloop.1
  simp only [F_seams_ring_closed, hk0, p_steps hn h near, Option.bind_some]
  rw [show (mput ([] : Mp) [0] 1, (0 : Int)) = (([([0], 1)] : Mp), ((0 : Nat) : Int)) from rfl, h1]
  rfl
theorem c_Check4 {f : Figure} (h : VF f) : F_seams_Check n f = some 0 := by
  have hd := h.d; have hp := h.p; have hs := h.s; have ht := h.t; have hng := hd.ng
  have hl := loop_all (step := F_seams_isFigure_s1 n f) f.Starts.length (fun _ => true) false (n := n) (by omega) (fun i hi => by
    have h1 : f.Starts[i]? = some f.Starts[i] := List.getElem?_eq_getElem hi
    have h2 : f.Times[i]? = some (f.Times[i]'(by omega)) := List.getElem?_eq_getElem (by omega)
    have b1 := h.ss _ (List.getElem_mem hi)
    have b2 := h.tt _ (List.getElem_mem (show i < f.Times.length by omega))
    have w1 : F_seams_within n f.Starts[i] 0 (f.Period - 1) = some true := congrArg some (wiB_t.2 b1)
    have w2 : F_seams_within n (f.Times[i]'(by omega)) 1 99 = some true := congrArg some (wiB_t.2 b2)
    simp only [F_seams_isFigure_s1, lt_nat, hi, decide_true, if_true, geti_nat, h1, h2, Option.bind_some, w64_id (show -9223372036854775808 ≤ f.Period - 1 by omega) (show f.Period - 1 ≤ 9223372036854775807 by omega), w1, w2, Bool.not_true, Bool.false_eq_true, if_false, w64_nat (show i ≤ 4611686018427387904 by omega), cond_true]) (by simp [F_seams_isFigure_s1]) (by omega)
  have e : ((List.range f.Starts.length).all fun _ => true) = true := by simp
  rw [e] at hl
  have ew : w64 (f.Period.tdiv 2) = f.Period / 2 := by
    rw [Int.tdiv_eq_ediv_of_nonneg (by omega)]
    exact w64_id (by omega) (by omega)
  have w1 : F_seams_within n f.Period 1 60 = some true := congrArg some (wiB_t.2 hp)
  have w2 : F_seams_within n f.Run 0 2000 = some true := congrArg some (wiB_t.2 h.r)
  have w3 : F_seams_within n f.Near 0 (f.Period / 2) = some true := congrArg some (wiB_t.2 h.n)
  have e1 : ((f.Starts.length : Int) != (f.Dome.Gores.length : Int)) = false := by simp; omega
  have e2 : ((f.Times.length : Int) != (f.Dome.Gores.length : Int)) = false := by simp; omega
  have hF : F_seams_isFigure n f = some true := by
    simp only [F_seams_isFigure, w1, w2, ew, w3, Option.bind_some, Bool.not_true, Bool.false_eq_true, if_false, e1, e2, Bool.or_self, hl, cond_true]
  simp only [F_seams_Check, c_Check hn hd, hF, Option.bind_some, bne_self_eq_false, Bool.false_eq_true, if_false, Bool.not_true]
theorem p_open {f : Figure} (h : VF f) (hk : Known f.Dome) : F_seams_open n f true = some (some ⟨f, movesL f⟩, 0) := by
  have hd := h.d; have hp := h.p; have hng := hd.ng; have hr := h.r
  have hl := loop_fold (step := F_seams_open_s1 n f) f.Dome.Gores (fun i (s : List (List Int)) => ((i : Int), s)) (fun s g => s ++ [(boltOf f.Dome g).map fun by_ => (pullS f.Run by_).tmod f.Period]) (fun s => (Sum.inr s : ((Option seams_ring) × Int) ⊕ List (List Int))) (fun i s => s.length ≤ i) (n := n) [] (Nat.le_refl _) (fun i g s hg hI => by
    have hi : i < f.Dome.Gores.length := (List.getElem?_eq_some_iff.1 hg).1
    have hgm := List.mem_of_getElem? hg
    have hgb := hd.g g hgm
    obtain ⟨b, hb, _, g2, g3, g4⟩ := gore_get hd hk hgm
    have hvb := hd.b b hb
    have hbs := hvb.s
    have hnl := num_len hvb
    obtain ⟨q, hq⟩ : ∃ q : Nat, g = (q : Int) := ⟨g.toNat, by omega⟩
    have hbq : f.Dome.Bolts[q]? = some b := by
      rw [hq] at g4; rw [geti_nat] at g4; exact g4
    have hst : F_cloth_Stretches n f.Dome g = some (numL b, 0) := by rw [hq]; exact p_Stretches hn hd hk hbq
    have hin := loop_fold (step := F_seams_open_s2 n f (numL b, 0)) (numL b) (fun i (s : List Int) => ((i : Int), s)) (fun s x => s ++ [(pullS f.Run x).tmod f.Period]) (fun s => s) (fun i s => s.length ≤ i) (n := n) [] (Nat.le_refl _) (fun i x s hx hI => by
      have hi : i < (numL b).length := (List.getElem?_eq_some_iff.1 hx).1
      have hxm := num_mem (List.mem_of_getElem? hx)
      have hlim : lim (s ++ [(pullS f.Run x).tmod f.Period]) = some (s ++ [(pullS f.Run x).tmod f.Period]) := lim_ok (by rw [List.length_append, List.length_singleton]; omega)
      refine ⟨?_, by rw [List.length_append, List.length_singleton]; omega⟩
      simp only [F_seams_open_s2, lt_nat, hi, decide_true, if_true, geti_nat, hx, Option.bind_some, nz_of (show f.Period ≠ 0 by omega), pull_eq hr.1 hr.2 (show 0 ≤ x by omega) (by omega), hlim, w64_nat (show i ≤ 4611686018427387904 by omega)]) (fun s hI => by
      simp [F_seams_open_s2]) (by omega)
    have h2 := hin.1
    rw [foldl_map1, List.nil_append] at h2
    have hlim : lim (s ++ [(boltOf f.Dome g).map fun by_ => (pullS f.Run by_).tmod f.Period]) = some (s ++ [(boltOf f.Dome g).map fun by_ => (pullS f.Run by_).tmod f.Period]) := lim_ok (by rw [List.length_append, List.length_singleton]; omega)
    have hbo : boltOf f.Dome g = numL b := g2
    refine ⟨?_, by rw [List.length_append, List.length_singleton]; omega⟩
    rw [hbo] at hlim ⊢
    simp only [F_seams_open_s1, lt_nat, hi, decide_true, if_true, geti_nat, hg, Option.bind_some, hst, bne_self_eq_false, Bool.false_eq_true, if_false]
    rw [show loopO n (F_seams_open_s2 n f (numL b, 0)) (0, []) = _ from h2]
    simp only [Option.bind_some, hlim, w64_nat (show i ≤ 4611686018427387904 by omega)]) (fun s hI => by
    simp [F_seams_open_s1]) (by omega)
  have h1 := hl.1
  rw [foldl_map1, List.nil_append] at h1
  simp only [F_seams_open, c_Check4 hn h, Option.bind_some, bne_self_eq_false, Bool.false_eq_true, if_false, Bool.not_true]
  rw [show (0 : Int) = ((0 : Nat) : Int) from rfl, h1]; rfl
omit hn in
theorem ring_ok {f : Figure} (h : VF f) (hk : Known f.Dome) : RV' ⟨f, movesL f⟩ := by
  have hp := h.p; have hng := h.d.ng; have hr := h.r
  refine ⟨hp, by show (movesL f).length ≤ 16; unfold movesL; rw [List.length_map]; omega, fun l hl => ?_⟩
  unfold movesL at hl
  obtain ⟨g, hg, rfl⟩ := List.mem_map.1 hl
  obtain ⟨b, hb, _, g2, g3, _⟩ := gore_get h.d hk hg
  have hbo : boltOf f.Dome g = numL b := g2
  have hvb := h.d.b b hb
  have hbs := hvb.s
  rw [hbo]
  refine ⟨by rw [List.length_map]; exact num_len hvb, fun e => g3 (List.map_eq_nil_iff.1 e), fun x hx => ?_⟩
  obtain ⟨y, hy, rfl⟩ := List.mem_map.1 hx
  have hym := num_mem hy
  have hpl := (pull_in hr.1 hr.2 (show 0 ≤ y by omega) (by omega)).2
  rw [Int.tmod_eq_emod_of_nonneg hpl.1]
  exact ⟨Int.emod_nonneg _ (by omega), Int.emod_lt_of_pos _ (by show 0 < f.Period; omega)⟩
theorem p_Closest {f : Figure} (h : VF f) (hk : Known f.Dome) (hsz : f.Period.toNat ^ (movesL f).length ≤ 100000) {k : Nat} (hk1 : closedB f.Period (movesL f) (k : Int) = true) (hk2 : ∀ j : Nat, j < k → closedB f.Period (movesL f) (j : Int) = false) (hk3 : k ≤ 1000) : F_seams_Closest n f = some ((k : Int), 0) := by
  have hr := ring_ok h hk
  have key := loop_run (step := F_seams_Closest_s1 n ⟨f, movesL f⟩) (fun j => (j : Int)) (r := (k : Int)) k 0 n (fun j _ hj => by
    have hj : j < k := by omega
    simp only [F_seams_Closest_s1, p_closed hn hr (j : Int) hsz, hk2 j hj, Option.bind_some, Bool.not_false, if_true, w64_nat (show j ≤ 4611686018427387904 by omega)]) (by
    rw [Nat.zero_add]
    simp only [F_seams_Closest_s1, p_closed hn hr (k : Int) hsz, hk1, Option.bind_some, Bool.not_true, Bool.false_eq_true, if_false]) (by omega)
  simp only [F_seams_Closest, p_open hn h hk, Option.bind_some, bne_self_eq_false, Bool.false_eq_true, if_false]
  rw [show (0 : Int) = ((0 : Nat) : Int) from rfl, key]; rfl
end
end Go.Proofs.Yteihdclpiekmaaa
end
section
namespace Go.Proofs.Yteihdclpiekmaaa
open Go Go.RowKit Go.Dec
theorem filter_none {p : Int → Bool} {l : List Int} (h : ∀ y ∈ l, p y = false) : l.filter p = [] := List.filter_eq_nil_iff.2 fun y hy => by rw [h y hy]; simp
theorem span_one {p : Int → Bool} {x hi : Int} : ∀ (k : Nat) (lo : Int), (hi + 1 - lo).toNat = k → lo ≤ x ∧ x ≤ hi → (∀ y, lo ≤ y → y ≤ hi → (p y = true ↔ y = x)) → (span lo hi).filter p = [x] := by
  intro k
  induction k with
  | zero => intro lo hk hx; omega
  | succ k ih =>
    intro lo hk hx hp
    rw [span_cons (by omega), List.filter_cons]
    by_cases e : lo = x
    · rw [if_pos ((hp lo (Int.le_refl _) (by omega)).2 e), filter_none, e]
      intro y hy
      have hy' := span_mem'.1 hy
      cases h : p y
      · rfl
      · have := (hp y (by omega) (by omega)).1 h; omega
    · have : ¬ p lo = true := fun h => e ((hp lo (Int.le_refl _) (by omega)).1 h)
      rw [if_neg this]
      exact ih (lo + 1) (by omega) (by omega) fun y h1 h2 => hp y (by omega) h2
theorem mod_zero {P x : Int} (h1 : -P < x) (h2 : x < P) (h : x % P = 0) : x = 0 := by
  by_cases hx : 0 ≤ x
  · rw [Int.emod_eq_of_lt hx h2] at h; exact h
  · have e : (x + P * 1) % P = x % P := Int.add_mul_emod_self_left x P 1
    rw [h, Int.emod_eq_of_lt (by omega) (by omega)] at e
    omega
theorem far_zero {P a b : Int} (ha : 0 ≤ a ∧ a < P) (hb : 0 ≤ b ∧ b < P) : farS P a b ≤ 0 ↔ b = a := by
  unfold farS
  constructor
  · intro h
    have h1 := Int.emod_nonneg (a - b) (show P ≠ 0 by omega)
    have h2 := Int.emod_nonneg (b - a) (show P ≠ 0 by omega)
    have h3 : (a - b) % P = 0 ∨ (b - a) % P = 0 := by omega
    rcases h3 with h3 | h3
    · have := mod_zero (by omega) (by omega) h3; omega
    · have := mod_zero (by omega) (by omega) h3; omega
  · rintro rfl
    rw [Int.sub_self, Int.zero_emod]
    exact Int.le_refl _
theorem meets_one {P m later near : Int} : meetsI P [m] later near = 1 ∨ meetsI P [m] later near = 2 := by
  unfold meetsI
  by_cases h : farS P m later ≤ near
  · exact .inl (by simp [h])
  · exact .inr (by simp [h])
theorem meets_near {P m later near : Int} : meetsI P [m] later near = 1 ↔ farS P m later ≤ near := by
  unfold meetsI
  by_cases h : farS P m later ≤ near <;> simp [h]
theorem step_one {P m : Int} (hm : 0 ≤ m ∧ m < P) : stepL P 0 [m] = [m] :=
  span_one _ 0 rfl (by omega) fun y h1 h2 => by
    rw [beq_iff_eq, meets_near]
    exact far_zero hm ⟨h1, by omega⟩
theorem next_one {P s b : Int} : nextT P [([s], 1)] [b] = [([(s + b) % P], 1)] := rfl
theorem final_one {P : Int} (hP : 0 < P) : ∀ (ms : List Int) (s : Int), 0 ≤ s ∧ s < P → (ms.map fun m => [m]).foldl (nextT P) [([s], 1)] = [([(s + ms.sum) % P], 1)]
  | [], s, h => by
    rw [List.map_nil, List.foldl_nil, List.sum_nil, Int.add_zero, Int.emod_eq_of_lt h.1 h.2]
  | m :: ms, s, h => by
    rw [List.map_cons, List.foldl_cons, next_one, final_one hP ms _ ⟨Int.emod_nonneg _ (by omega), Int.emod_lt_of_pos _ hP⟩, List.sum_cons, Int.emod_add_emod, Int.add_assoc]
theorem closed_zero {P : Int} (hP : 0 < P) {ms : List Int} (h : ∀ m ∈ ms, 0 ≤ m ∧ m < P) : closedB P (ms.map fun m => [m]) 0 = decide (ms.sum % P = 0) := by
  have e : (ms.map fun m => [m]).map (stepL P 0) = ms.map fun m => [m] := by
    rw [List.map_map]
    exact List.map_congr_left fun m hm => step_one (h m hm)
  unfold closedB finalT
  rw [e, final_one hP ms 0 (by omega), Int.zero_add, mget_cons, mget_nil]
  by_cases hz : ms.sum % P = 0
  · rw [hz]; simp
  · simp [hz]
theorem step_all {P : Int} (hP : 0 < P) (l : List Int) : stepL P P l = span 0 (P - 1) := by
  unfold stepL
  refine List.filter_eq_self.2 fun y hy => ?_
  have e : l.countP (fun m => decide (farS P m y ≤ P)) = l.length := by
    refine List.countP_eq_length.2 fun m _ => ?_
    have := Int.emod_lt_of_pos (m - y) hP
    exact decide_eq_true (Int.le_trans (Int.min_le_left _ _) (by omega))
  unfold meetsI
  rw [e]; simp
theorem next_zero {P : Int} (hP : 0 < P) {T : Mp} (h : 0 < mget T [0]) : 0 < mget (nextT P T (span 0 (P - 1))) [0] := by
  unfold nextT
  rw [(tally_ok _).get]
  have hm : ([0] : List Int) ∈ nextL P T (span 0 (P - 1)) := by
    by_cases hx : ∃ p ∈ T, p.1 = [0]
    · obtain ⟨p, hp, e⟩ := hx
      unfold nextL
      refine List.mem_flatMap.2 ⟨p, hp, List.mem_map.2 ⟨0, span_mem'.2 (by omega), ?_⟩⟩
      rw [e]; simp
    · have := mget_of_not (m := T) (k := [0]) fun q hq e => hx ⟨q, hq, e⟩
      omega
  have := List.count_pos_iff.2 hm
  omega
theorem closed_all {P : Int} (hP : 0 < P) (moves : List (List Int)) : closedB P moves P = true := by
  unfold closedB finalT
  have e : moves.map (stepL P P) = moves.map fun _ => span 0 (P - 1) := List.map_congr_left fun l _ => step_all hP l
  rw [e, decide_eq_true_eq]
  have key : ∀ (l : List (List Int)) (T : Mp), 0 < mget T [0] → 0 < mget ((l.map fun _ => span 0 (P - 1)).foldl (nextT P) T) [0] := by
    intro l
    induction l with
    | nil => intro T h; exact h
    | cons a l ih => intro T h; rw [List.map_cons, List.foldl_cons]; exact ih _ (next_zero hP h)
  exact key moves _ (by decide)
theorem least {p : Nat → Bool} : ∀ N, p N = true → ∃ k, k ≤ N ∧ p k = true ∧ ∀ j, j < k → p j = false := by
  intro N
  induction N using Nat.strongRecOn with
  | _ N ih =>
    intro h
    by_cases hx : ∃ j, j < N ∧ p j = true
    · obtain ⟨j, hj, hp⟩ := hx
      obtain ⟨k, h1, h2, h3⟩ := ih j hj hp
      exact ⟨k, by omega, h2, h3⟩
    · refine ⟨N, Nat.le_refl _, h, fun j hj => ?_⟩
      cases hp : p j
      · rfl
      · exact absurd ⟨j, hj, hp⟩ hx
theorem sum_mod {P : Int} (Q : Int → Int) : ∀ (l : List Int) (s t : Int), s % P = t % P → (l.foldl (fun s g => s + Q g) s) % P = (t + (l.map fun g => Q g % P).sum) % P
  | [], s, t, h => by simpa using h
  | g :: l, s, t, h => by
    rw [List.foldl_cons, sum_mod Q l (s + Q g) (t + Q g % P), List.map_cons, List.sum_cons, Int.add_assoc]
    rw [Int.add_emod_emod, Int.add_emod, h, ← Int.add_emod]
/-- what a gore's bolt gives a run, where it has one number -/
def runP (f : Figure) (g : Int) : Int := pullS f.Run ((boltOf f.Dome g).headD 0)
theorem single_gore {d : Dome} (h : VD d) (hs : Single d) {g : Int} (hg : g ∈ d.Gores) : ∃ x, boltOf d g = [x] ∧ 0 ≤ x ∧ x ≤ 60 := by
  obtain ⟨b, hb, _, g2, g3, _⟩ := gore_get h hs.known hg
  obtain ⟨x, hx⟩ : ∃ x, numL b = [x] := List.length_eq_one_iff.1 (hs b hb)
  have hm := num_mem (show x ∈ numL b by rw [hx]; simp)
  have := (h.b b hb).s
  exact ⟨x, by unfold boltOf; rw [g2, hx], by omega, by omega⟩
theorem run_in {f : Figure} (h : VF f) (hs : Single f.Dome) {g : Int} (hg : g ∈ f.Dome.Gores) : 0 ≤ runP f g ∧ runP f g ≤ 2120 := by
  obtain ⟨x, hx, h1, h2⟩ := single_gore h.d hs hg
  unfold runP
  rw [hx]
  exact (pull_in h.r.1 h.r.2 h1 h2).2
theorem moves_one {f : Figure} (h : VF f) (hs : Single f.Dome) : movesL f = (f.Dome.Gores.map fun g => runP f g % f.Period).map fun m => [m] := by
  unfold movesL
  rw [List.map_map]
  refine List.map_congr_left fun g hg => ?_
  obtain ⟨x, hx, h1, h2⟩ := single_gore h.d hs hg
  have hb := run_in h hs hg
  unfold runP at hb ⊢
  simp only [Function.comp]
  rw [hx] at hb ⊢
  simp only [List.headD_cons] at hb ⊢
  rw [List.map_singleton, Int.tmod_eq_emod_of_nonneg hb.1]
theorem closed_run {f : Figure} (h : VF f) (hs : Single f.Dome) : closedB f.Period (movesL f) 0 = decide ((f.Dome.Gores.foldl (fun s g => s + runP f g) 0) % f.Period = 0) := by
  have hp := h.p
  rw [moves_one h hs, closed_zero (by omega) fun m hm => by
    obtain ⟨g, _, rfl⟩ := List.mem_map.1 hm
    exact ⟨Int.emod_nonneg _ (by omega), Int.emod_lt_of_pos _ (by omega)⟩]
  rw [sum_mod (runP f) f.Dome.Gores 0 0 rfl, Int.zero_add]
section
variable {n : Nat} (hn : 200000000 ≤ n)
include hn
theorem p_Meets1 {f : Figure} (h : VF f) (hs : Single f.Dome) {i : Nat} (hi : i < f.Starts.length) : ∃ r, F_seams_Meets n f (i : Int) = some (r, 0) ∧ (r = 1 ∨ r = 2) := by
  have hp := h.p; have hng := h.d.ng; have hst := h.s
  have hr := ring_ok h hs.known
  have hml : (movesL f).length = f.Dome.Gores.length := by unfold movesL; rw [List.length_map]
  obtain ⟨g, hg⟩ : ∃ g, f.Dome.Gores[i]? = some g := ⟨_, List.getElem?_eq_getElem (by omega)⟩
  obtain ⟨m, hmi⟩ : ∃ m, (movesL f)[i]? = some [m] := by
    rw [moves_one h hs, List.getElem?_map, List.getElem?_map, hg]
    exact ⟨_, rfl⟩
  have hw : F_seams_within n (i : Int) 0 (w64 ((f.Dome.Gores.length : Int) - 1)) = some true := by
    rw [w64_id (by omega) (by omega)]
    exact congrArg some (wiB_t.2 ⟨by omega, by omega⟩)
  obtain ⟨j, hj, hjl⟩ : ∃ j : Nat, (w64 ((i : Int) + 1)).tmod ((movesL f).length : Int) = (j : Int) ∧ j < f.Starts.length := by
    refine ⟨(i + 1) % (movesL f).length, ?_, ?_⟩
    · rw [w64_id (by omega) (by omega), Int.tmod_eq_emod_of_nonneg (by omega), show (i : Int) + 1 = ((i + 1 : Nat) : Int) from rfl, ← Int.natCast_emod]
    · have := Nat.mod_lt (i + 1) (show 0 < (movesL f).length by omega); omega
  obtain ⟨a, ha⟩ : ∃ a, f.Starts[j]? = some a := ⟨_, List.getElem?_eq_getElem hjl⟩
  obtain ⟨b, hb⟩ : ∃ b, f.Starts[i]? = some b := ⟨_, List.getElem?_eq_getElem hi⟩
  have hnx : F_seams_ring_next n ⟨f, movesL f⟩ (i : Int) = some (j : Int) := by
    simp only [F_seams_ring_next, nz_of (show ((movesL f).length : Int) ≠ 0 by omega), Option.bind_some, hj]
  have hmod : ∀ x, F_seams_ring_modulo n ⟨f, movesL f⟩ x = some (x % f.Period) := fun x => p_modulo n hr x
  have hbd : ∀ x : Int, 0 ≤ x % f.Period ∧ x % f.Period < f.Period := fun x => ⟨Int.emod_nonneg _ (by omega), Int.emod_lt_of_pos _ (by omega)⟩
  have hin := hbd (w64 (a - b))
  refine ⟨meetsI f.Period [m] (w64 (a - b) % f.Period) f.Near, ?_, meets_one⟩
  have hme := p_meets hn hr (i := i) (l := [m]) hmi (later := w64 (a - b) % f.Period) (by omega) f.Near
  simp only [F_seams_Meets, hw, p_open hn h hs.known, Option.bind_some, bne_self_eq_false, Bool.false_eq_true, if_false, F_seams_ring_own, hnx, geti_nat, ha, hb, hmod, hme]
end
end Go.Proofs.Yteihdclpiekmaaa
end
section
namespace Go.Dec
open Go Go.RowKit
theorem Kept.plain {H : Hp} {w w' : World} (h : Kept H w w') (hh : H.hole = none) : Below w.heap.size w w' :=
  ⟨h.below.os, h.below.tape, h.below.output, h.below.size, fun k hk => h.below.block k hk (fun I e => by rw [hh] at e; cases e)⟩
end Go.Dec
end
section
namespace Go.Proofs.Yteihdclpiekmaaa
open Go Go.RowKit Go.Dec
set_option linter.unusedVariables false
def W_Span (x : Span) : Prop := I64 x.Low ∧ I64 x.High
set_option maxRecDepth 100000 in
theorem o_Span {T : Type} {enc : TypeId × Value → T} : Opens enc Try.prog 39 2 R_Span W_Span := by
  intro w base sp held fuel cs y h
  obtain ⟨xs, n, _, rfl, hl, hlen, hf⟩ := DataW.trod_struct Try.underlying39 h
  have hl2 : cs.length = 2 := hl.trans (by kernel_rfl)
  have hx : xs.length = 2 := hlen
  obtain ⟨c0, c1, rfl⟩ : ∃ c0 c1, cs = [c0, c1] := by
    match cs, hl2 with
    | [c0, c1], _ => exact ⟨_, _, rfl⟩
  have co3 : Try.prog.cellsOf 3 = 1 := by kernel_rfl
  have e0 : DataW.trod enc Try.prog w base sp held n 3 (([c0, c1].drop 0).take (Try.prog.cellsOf 3)) = xs[0]? := hf 0 _ rfl
  rw [co3] at e0
  obtain ⟨_, x0, r0, w0⟩ := (Opens.int (by kernel_rfl)) _ _ _ _ _ _ _ (e0.trans (List.getElem?_eq_getElem (by omega)))
  have e1 : DataW.trod enc Try.prog w base sp held n 3 (([c0, c1].drop 1).take (Try.prog.cellsOf 3)) = xs[1]? := hf 1 _ rfl
  rw [co3] at e1
  obtain ⟨_, x1, r1, w1⟩ := (Opens.int (by kernel_rfl)) _ _ _ _ _ _ _ (e1.trans (List.getElem?_eq_getElem (by omega)))
  have q0 : [c0] = [_] := r0
  cases q0
  have q1 : [c1] = [_] := r1
  cases q1
  exact ⟨rfl, ⟨x0, x1⟩, rfl, w0, w1⟩
def W_Strip (x : Strip) : Prop := I64 x.Long ∧ W_Span x.Pulled
set_option maxRecDepth 100000 in
theorem o_Strip {T : Type} {enc : TypeId × Value → T} : Opens enc Try.prog 176 3 R_Strip W_Strip := by
  intro w base sp held fuel cs y h
  obtain ⟨xs, n, _, rfl, hl, hlen, hf⟩ := DataW.trod_struct Try.underlying176 h
  have hl2 : cs.length = 3 := hl.trans (by kernel_rfl)
  have hx : xs.length = 2 := hlen
  obtain ⟨c0, c1, c2, rfl⟩ : ∃ c0 c1 c2, cs = [c0, c1, c2] := by
    match cs, hl2 with
    | [c0, c1, c2], _ => exact ⟨_, _, _, rfl⟩
  have co3 : Try.prog.cellsOf 3 = 1 := by kernel_rfl
  have co39 : Try.prog.cellsOf 39 = 2 := by kernel_rfl
  have e0 : DataW.trod enc Try.prog w base sp held n 3 (([c0, c1, c2].drop 0).take (Try.prog.cellsOf 3)) = xs[0]? := hf 0 _ rfl
  rw [co3] at e0
  obtain ⟨_, x0, r0, w0⟩ := (Opens.int (by kernel_rfl)) _ _ _ _ _ _ _ (e0.trans (List.getElem?_eq_getElem (by omega)))
  have e1 : DataW.trod enc Try.prog w base sp held n 39 (([c0, c1, c2].drop 1).take (Try.prog.cellsOf 39)) = xs[1]? := hf 1 _ rfl
  rw [co39] at e1
  obtain ⟨_, x1, r1, w1⟩ := o_Span _ _ _ _ _ _ _ (e1.trans (List.getElem?_eq_getElem (by omega)))
  have q0 : [c0] = [_] := r0
  cases q0
  have q1 : [c1, c2] = _ := r1
  cases q1
  exact ⟨rfl, ⟨x0, x1⟩, rfl, w0, w1⟩
def W_Bolt (x : Bolt) : Prop := W_Span x.Stretch ∧ (fun (l : List Strip) => (∀ x ∈ l, W_Strip x) ∧ l.length ≤ 9223372036854775807) x.Strips ∧ I64 x.Wrong
set_option maxRecDepth 100000 in
theorem o_Bolt {T : Type} {enc : TypeId × Value → T} : Opens enc Try.prog 179 4 R_Bolt W_Bolt := by
  intro w base sp held fuel cs y h
  obtain ⟨xs, n, _, rfl, hl, hlen, hf⟩ := DataW.trod_struct Try.underlying179 h
  have hl2 : cs.length = 4 := hl.trans (by kernel_rfl)
  have hx : xs.length = 3 := hlen
  obtain ⟨c0, c1, c2, c3, rfl⟩ : ∃ c0 c1 c2 c3, cs = [c0, c1, c2, c3] := by
    match cs, hl2 with
    | [c0, c1, c2, c3], _ => exact ⟨_, _, _, _, rfl⟩
  have co3 : Try.prog.cellsOf 3 = 1 := by kernel_rfl
  have co39 : Try.prog.cellsOf 39 = 2 := by kernel_rfl
  have co177 : Try.prog.cellsOf 177 = 1 := by kernel_rfl
  have e0 : DataW.trod enc Try.prog w base sp held n 39 (([c0, c1, c2, c3].drop 0).take (Try.prog.cellsOf 39)) = xs[0]? := hf 0 _ rfl
  rw [co39] at e0
  obtain ⟨_, x0, r0, w0⟩ := o_Span _ _ _ _ _ _ _ (e0.trans (List.getElem?_eq_getElem (by omega)))
  have e1 : DataW.trod enc Try.prog w base sp held n 177 (([c0, c1, c2, c3].drop 2).take (Try.prog.cellsOf 177)) = xs[1]? := hf 1 _ rfl
  rw [co177] at e1
  obtain ⟨_, x1, r1, w1⟩ := (Opens.slice (e := 176) (sz := 3) (by kernel_rfl) (by kernel_rfl) rfl o_Strip) _ _ _ _ _ _ _ (e1.trans (List.getElem?_eq_getElem (by omega)))
  have e2 : DataW.trod enc Try.prog w base sp held n 3 (([c0, c1, c2, c3].drop 3).take (Try.prog.cellsOf 3)) = xs[2]? := hf 2 _ rfl
  rw [co3] at e2
  obtain ⟨_, x2, r2, w2⟩ := (Opens.int (by kernel_rfl)) _ _ _ _ _ _ _ (e2.trans (List.getElem?_eq_getElem (by omega)))
  have q0 : [c0, c1] = _ := r0
  cases q0
  obtain ⟨v1, q1, s1⟩ := r1
  have q1 : [c2] = [v1] := q1
  cases q1
  have q2 : [c3] = [_] := r2
  cases q2
  exact ⟨rfl, ⟨x0, x1, x2⟩, ⟨c2, rfl, s1⟩, w0, w1, w2⟩
def W_Dome (x : Dome) : Prop := (fun (l : List Bolt) => (∀ x ∈ l, W_Bolt x) ∧ l.length ≤ 9223372036854775807) x.Bolts ∧ (fun (l : List Int) => (∀ x ∈ l, I64 x) ∧ l.length ≤ 9223372036854775807) x.Gores ∧ I64 x.Loss ∧ (fun (l : List Span) => (∀ x ∈ l, W_Span x) ∧ l.length ≤ 9223372036854775807) x.Rounds ∧ (fun (l : List Int) => (∀ x ∈ l, I64 x) ∧ l.length ≤ 9223372036854775807) x.Widths ∧ I64 x.Slope
set_option maxRecDepth 100000 in
theorem o_Dome {T : Type} {enc : TypeId × Value → T} : Opens enc Try.prog 26 6 R_Dome W_Dome := by
  intro w base sp held fuel cs y h
  obtain ⟨xs, n, _, rfl, hl, hlen, hf⟩ := DataW.trod_struct Try.underlying26 h
  have hl2 : cs.length = 6 := hl.trans (by kernel_rfl)
  have hx : xs.length = 6 := hlen
  obtain ⟨c0, c1, c2, c3, c4, c5, rfl⟩ : ∃ c0 c1 c2 c3 c4 c5, cs = [c0, c1, c2, c3, c4, c5] := by
    match cs, hl2 with
    | [c0, c1, c2, c3, c4, c5], _ => exact ⟨_, _, _, _, _, _, rfl⟩
  have co3 : Try.prog.cellsOf 3 = 1 := by kernel_rfl
  have co22 : Try.prog.cellsOf 22 = 1 := by kernel_rfl
  have co23 : Try.prog.cellsOf 23 = 1 := by kernel_rfl
  have co24 : Try.prog.cellsOf 24 = 1 := by kernel_rfl
  have e0 : DataW.trod enc Try.prog w base sp held n 22 (([c0, c1, c2, c3, c4, c5].drop 0).take (Try.prog.cellsOf 22)) = xs[0]? := hf 0 _ rfl
  rw [co22] at e0
  obtain ⟨_, x0, r0, w0⟩ := (Opens.slice (e := 179) (sz := 4) (by kernel_rfl) (by kernel_rfl) rfl o_Bolt) _ _ _ _ _ _ _ (e0.trans (List.getElem?_eq_getElem (by omega)))
  have e1 : DataW.trod enc Try.prog w base sp held n 23 (([c0, c1, c2, c3, c4, c5].drop 1).take (Try.prog.cellsOf 23)) = xs[1]? := hf 1 _ rfl
  rw [co23] at e1
  obtain ⟨_, x1, r1, w1⟩ := (Opens.slice (e := 3) (sz := 1) (by kernel_rfl) (by kernel_rfl) rfl (Opens.int (by kernel_rfl))) _ _ _ _ _ _ _ (e1.trans (List.getElem?_eq_getElem (by omega)))
  have e2 : DataW.trod enc Try.prog w base sp held n 3 (([c0, c1, c2, c3, c4, c5].drop 2).take (Try.prog.cellsOf 3)) = xs[2]? := hf 2 _ rfl
  rw [co3] at e2
  obtain ⟨_, x2, r2, w2⟩ := (Opens.int (by kernel_rfl)) _ _ _ _ _ _ _ (e2.trans (List.getElem?_eq_getElem (by omega)))
  have e3 : DataW.trod enc Try.prog w base sp held n 24 (([c0, c1, c2, c3, c4, c5].drop 3).take (Try.prog.cellsOf 24)) = xs[3]? := hf 3 _ rfl
  rw [co24] at e3
  obtain ⟨_, x3, r3, w3⟩ := (Opens.slice (e := 39) (sz := 2) (by kernel_rfl) (by kernel_rfl) rfl o_Span) _ _ _ _ _ _ _ (e3.trans (List.getElem?_eq_getElem (by omega)))
  have e4 : DataW.trod enc Try.prog w base sp held n 23 (([c0, c1, c2, c3, c4, c5].drop 4).take (Try.prog.cellsOf 23)) = xs[4]? := hf 4 _ rfl
  rw [co23] at e4
  obtain ⟨_, x4, r4, w4⟩ := (Opens.slice (e := 3) (sz := 1) (by kernel_rfl) (by kernel_rfl) rfl (Opens.int (by kernel_rfl))) _ _ _ _ _ _ _ (e4.trans (List.getElem?_eq_getElem (by omega)))
  have e5 : DataW.trod enc Try.prog w base sp held n 3 (([c0, c1, c2, c3, c4, c5].drop 5).take (Try.prog.cellsOf 3)) = xs[5]? := hf 5 _ rfl
  rw [co3] at e5
  obtain ⟨_, x5, r5, w5⟩ := (Opens.int (by kernel_rfl)) _ _ _ _ _ _ _ (e5.trans (List.getElem?_eq_getElem (by omega)))
  obtain ⟨v0, q0, s0⟩ := r0
  have q0 : [c0] = [v0] := q0
  cases q0
  obtain ⟨v1, q1, s1⟩ := r1
  have q1 : [c1] = [v1] := q1
  cases q1
  have q2 : [c2] = [_] := r2
  cases q2
  obtain ⟨v3, q3, s3⟩ := r3
  have q3 : [c3] = [v3] := q3
  cases q3
  obtain ⟨v4, q4, s4⟩ := r4
  have q4 : [c4] = [v4] := q4
  cases q4
  have q5 : [c5] = [_] := r5
  cases q5
  exact ⟨rfl, ⟨x0, x1, x2, x3, x4, x5⟩, ⟨c0, c1, c3, c4, rfl, s0, s1, s3, s4⟩, w0, w1, w2, w3, w4, w5⟩
def W_Figure (x : Figure) : Prop := W_Dome x.Dome ∧ I64 x.Period ∧ I64 x.Run ∧ I64 x.Near ∧ (fun (l : List Int) => (∀ x ∈ l, I64 x) ∧ l.length ≤ 9223372036854775807) x.Starts ∧ (fun (l : List Int) => (∀ x ∈ l, I64 x) ∧ l.length ≤ 9223372036854775807) x.Times
set_option maxRecDepth 100000 in
theorem o_Figure {T : Type} {enc : TypeId × Value → T} : Opens enc Try.prog 28 11 R_Figure W_Figure := by
  intro w base sp held fuel cs y h
  obtain ⟨xs, n, _, rfl, hl, hlen, hf⟩ := DataW.trod_struct Try.underlying28 h
  have hl2 : cs.length = 11 := hl.trans (by kernel_rfl)
  have hx : xs.length = 6 := hlen
  obtain ⟨c0, c1, c2, c3, c4, c5, c6, c7, c8, c9, c10, rfl⟩ : ∃ c0 c1 c2 c3 c4 c5 c6 c7 c8 c9 c10, cs = [c0, c1, c2, c3, c4, c5, c6, c7, c8, c9, c10] := by
    match cs, hl2 with
    | [c0, c1, c2, c3, c4, c5, c6, c7, c8, c9, c10], _ => exact ⟨_, _, _, _, _, _, _, _, _, _, _, rfl⟩
  have co3 : Try.prog.cellsOf 3 = 1 := by kernel_rfl
  have co23 : Try.prog.cellsOf 23 = 1 := by kernel_rfl
  have co26 : Try.prog.cellsOf 26 = 6 := by kernel_rfl
  have e0 : DataW.trod enc Try.prog w base sp held n 26 (([c0, c1, c2, c3, c4, c5, c6, c7, c8, c9, c10].drop 0).take (Try.prog.cellsOf 26)) = xs[0]? := hf 0 _ rfl
  rw [co26] at e0
  obtain ⟨_, x0, r0, w0⟩ := o_Dome _ _ _ _ _ _ _ (e0.trans (List.getElem?_eq_getElem (by omega)))
  have e1 : DataW.trod enc Try.prog w base sp held n 3 (([c0, c1, c2, c3, c4, c5, c6, c7, c8, c9, c10].drop 6).take (Try.prog.cellsOf 3)) = xs[1]? := hf 1 _ rfl
  rw [co3] at e1
  obtain ⟨_, x1, r1, w1⟩ := (Opens.int (by kernel_rfl)) _ _ _ _ _ _ _ (e1.trans (List.getElem?_eq_getElem (by omega)))
  have e2 : DataW.trod enc Try.prog w base sp held n 3 (([c0, c1, c2, c3, c4, c5, c6, c7, c8, c9, c10].drop 7).take (Try.prog.cellsOf 3)) = xs[2]? := hf 2 _ rfl
  rw [co3] at e2
  obtain ⟨_, x2, r2, w2⟩ := (Opens.int (by kernel_rfl)) _ _ _ _ _ _ _ (e2.trans (List.getElem?_eq_getElem (by omega)))
  have e3 : DataW.trod enc Try.prog w base sp held n 3 (([c0, c1, c2, c3, c4, c5, c6, c7, c8, c9, c10].drop 8).take (Try.prog.cellsOf 3)) = xs[3]? := hf 3 _ rfl
  rw [co3] at e3
  obtain ⟨_, x3, r3, w3⟩ := (Opens.int (by kernel_rfl)) _ _ _ _ _ _ _ (e3.trans (List.getElem?_eq_getElem (by omega)))
  have e4 : DataW.trod enc Try.prog w base sp held n 23 (([c0, c1, c2, c3, c4, c5, c6, c7, c8, c9, c10].drop 9).take (Try.prog.cellsOf 23)) = xs[4]? := hf 4 _ rfl
  rw [co23] at e4
  obtain ⟨_, x4, r4, w4⟩ := (Opens.slice (e := 3) (sz := 1) (by kernel_rfl) (by kernel_rfl) rfl (Opens.int (by kernel_rfl))) _ _ _ _ _ _ _ (e4.trans (List.getElem?_eq_getElem (by omega)))
  have e5 : DataW.trod enc Try.prog w base sp held n 23 (([c0, c1, c2, c3, c4, c5, c6, c7, c8, c9, c10].drop 10).take (Try.prog.cellsOf 23)) = xs[5]? := hf 5 _ rfl
  rw [co23] at e5
  obtain ⟨_, x5, r5, w5⟩ := (Opens.slice (e := 3) (sz := 1) (by kernel_rfl) (by kernel_rfl) rfl (Opens.int (by kernel_rfl))) _ _ _ _ _ _ _ (e5.trans (List.getElem?_eq_getElem (by omega)))
  obtain ⟨v0_0, v0_1, v0_3, v0_4, q0, s0_0, s0_1, s0_3, s0_4⟩ := r0
  cases q0
  have q1 : [c6] = [_] := r1
  cases q1
  have q2 : [c7] = [_] := r2
  cases q2
  have q3 : [c8] = [_] := r3
  cases q3
  obtain ⟨v4, q4, s4⟩ := r4
  have q4 : [c9] = [v4] := q4
  cases q4
  obtain ⟨v5, q5, s5⟩ := r5
  have q5 : [c10] = [v5] := q5
  cases q5
  exact ⟨rfl, ⟨x0, x1, x2, x3, x4, x5⟩, ⟨c0, c1, c3, c4, c9, c10, rfl, s0_0, s0_1, s0_3, s0_4, s4, s5⟩, w0, w1, w2, w3, w4, w5⟩
end Go.Proofs.Yteihdclpiekmaaa
end
section
namespace Go.Proofs.Yteihdclpiekmaaa
open Go Go.RowKit Go.Dec
def exD : Dome := ⟨[⟨⟨0, 20⟩, [⟨1000, ⟨1005, 1010⟩⟩], 0⟩, ⟨⟨0, 10⟩, [], 0⟩], [0, 0, 1, 1], 5, [⟨400, 404⟩, ⟨600, 650⟩, ⟨803, 806⟩], [110, 165, 210], 50⟩
def exF : Figure := ⟨exD, 12, 100, 1, [0, 3, 8, 0], [5, 3, 8, 2]⟩
theorem ex_dome : VD exD where
  nb := by decide
  ng := by decide
  l := by decide
  nr := by decide
  nw := by decide
  sl := by decide
  g := by decide
  r := by decide
  w := by decide
  b := fun b hb => by
    have hb' : b = ⟨⟨0, 20⟩, [⟨1000, ⟨1005, 1010⟩⟩], 0⟩ ∨ b = ⟨⟨0, 10⟩, [], 0⟩ := by simpa [exD] using hb
    rcases hb' with rfl | rfl
    · exact ⟨by decide, by decide, by decide, by decide⟩
    · exact ⟨by decide, by decide, by decide, by decide⟩
theorem ex_fig : VF exF where
  d := ex_dome
  p := by decide
  r := by decide
  n := by decide
  s := by decide
  t := by decide
  ss := by decide
  tt := by decide
theorem ex_known : Known exD := fun b hb => by
  have : (exD.Bolts.all fun b => !(numL b).isEmpty) = true := by kernel_rfl
  have h := List.all_eq_true.1 this b hb
  intro e
  rw [e] at h
  cases h
theorem ok_sewn {n : Nat} (hn : 200000000 ≤ n) : F_top_sewn n = some true := by
  have h1 : F_law02_Example n = some exD := rfl
  have h2 : F_law04_Example n = some exF := rfl
  have h3 : F_cloth_Round n exD 2 = some (⟨802, 808⟩, 0) := by
    have := p_Round hn ex_dome ex_known (i := 2) (w := 210) rfl
    have e1 : pickS exD 210 (fun l => l.headD 0) = 802 := by kernel_rfl
    have e2 : pickS exD 210 (fun l => l.getLastD 0) = 808 := by kernel_rfl
    rw [e1, e2] at this
    exact this
  have h4 : F_seams_Closest n exF = some (2, 0) := by
    have c0 : closedB exF.Period (movesL exF) 0 = false := by kernel_rfl
    have c1 : closedB exF.Period (movesL exF) 1 = false := by kernel_rfl
    have c2 : closedB exF.Period (movesL exF) 2 = true := by kernel_rfl
    refine p_Closest hn ex_fig ex_known (k := 2) (by decide) c2 (fun j hj => ?_) (by omega)
    obtain rfl | rfl : j = 0 ∨ j = 1 := by omega
    · exact c0
    · exact c1
  simp only [F_top_sewn, h1, h2, h3, h4, Option.bind_some]
  rfl
section
variable {n : Nat} (hn : 200000000 ≤ n)
include hn
theorem s1_run {f : Figure} (h : VF f) (hk : Known f.Dome) : ∀ (k j m : Nat), j + k = f.Dome.Bolts.length → k < m → (∀ b ∈ f.Dome.Bolts.take j, (numL b).length = 1) →
    loopO m (F_top_TopStiff_s1 n f) ((j : Int), (f.Dome.Bolts.take j).map fun b => pullS f.Run ((numL b).headD 0)) = some (.inl true) ∨
    (Single f.Dome ∧ loopO m (F_top_TopStiff_s1 n f) ((j : Int), (f.Dome.Bolts.take j).map fun b => pullS f.Run ((numL b).headD 0)) = some (.inr (f.Dome.Bolts.map fun b => pullS f.Run ((numL b).headD 0)))) := by
  have hnb := h.d.nb
  intro k
  induction k with
  | zero =>
    intro j m hj hm hs
    have e : f.Dome.Bolts.take j = f.Dome.Bolts := List.take_of_length_le (by omega)
    rw [e] at hs ⊢
    exact .inr ⟨hs, loop_done (by simp only [F_top_TopStiff_s1, lt_nat, decide_eq_false (show ¬ j < f.Dome.Bolts.length by omega), Bool.false_eq_true, if_false]) hm⟩
  | succ k ih =>
    intro j m hj hm hs
    obtain ⟨m, rfl⟩ : ∃ k, m = k + 1 := ⟨m - 1, by omega⟩
    have hjl : j < f.Dome.Bolts.length := by omega
    obtain ⟨b, hb⟩ : ∃ b, f.Dome.Bolts[j]? = some b := ⟨_, List.getElem?_eq_getElem hjl⟩
    have hbm := List.mem_of_getElem? hb
    have hpos := List.length_pos_iff.2 (hk b hbm)
    have hz : (((numL b).length : Int) == 0) = false := by rw [beq_eq_false_iff_ne]; omega
    by_cases h1 : 1 < (numL b).length
    · refine .inl ?_
      rw [loopO_succ]
      simp only [F_top_TopStiff_s1, lt_nat, hjl, decide_true, if_true, p_Stretches hn h.d hk hb, Option.bind_some, bne_self_eq_false, hz, Bool.or_self, Bool.false_eq_true, if_false, decide_eq_true (show (1 : Int) < ((numL b).length : Int) by omega), ok_sewn hn]
    · have hlen : (numL b).length = 1 := by omega
      obtain ⟨x, hx⟩ : ∃ x, numL b = [x] := List.length_eq_one_iff.1 hlen
      have hxm := num_mem (show x ∈ numL b by rw [hx]; simp)
      have hbs := (h.d.b b hbm).s
      have hr := h.r
      have hg0 : geti (numL b) 0 = some x := by rw [hx]; rfl
      have ht : f.Dome.Bolts.take (j + 1) = f.Dome.Bolts.take j ++ [b] := by rw [List.take_add_one, hb]; rfl
      have hlim : lim (((f.Dome.Bolts.take j).map fun b => pullS f.Run ((numL b).headD 0)) ++ [pullS f.Run x]) = some (((f.Dome.Bolts.take j).map fun b => pullS f.Run ((numL b).headD 0)) ++ [pullS f.Run x]) := lim_ok (by rw [List.length_append, List.length_singleton, List.length_map, List.length_take]; omega)
      have hs' : ∀ c ∈ f.Dome.Bolts.take (j + 1), (numL c).length = 1 := fun c hc => by
        rw [ht] at hc
        rcases List.mem_append.1 hc with hc | hc
        · exact hs c hc
        · rw [List.mem_singleton.1 hc]; exact hlen
      have hstep : F_top_TopStiff_s1 n f ((j : Int), (f.Dome.Bolts.take j).map fun b => pullS f.Run ((numL b).headD 0)) = some (.inl (((j + 1 : Nat) : Int), (f.Dome.Bolts.take (j + 1)).map fun b => pullS f.Run ((numL b).headD 0))) := by
        simp only [F_top_TopStiff_s1, lt_nat, hjl, decide_true, if_true, p_Stretches hn h.d hk hb, Option.bind_some, bne_self_eq_false, hz, Bool.or_self, Bool.false_eq_true, if_false, decide_eq_false (show ¬ (1 : Int) < ((numL b).length : Int) by omega), hg0, decide_eq_false (show ¬ x < 0 by omega), decide_eq_false (show ¬ 60 < x by omega), F_ref02_Pull, pull_eq hr.1 hr.2 (show 0 ≤ x by omega) (by omega), hlim, w64_nat (show j ≤ 4611686018427387904 by omega)]
        rw [ht, List.map_append, List.map_singleton, hx]
        rfl
      rw [loopO_succ, hstep]
      exact ih (j + 1) m (by omega) (by omega) hs'
theorem s2_run {f : Figure} (h : VF f) (hs : Single f.Dome) : loopO n (F_top_TopStiff_s2 n f (f.Dome.Bolts.map fun b => pullS f.Run ((numL b).headD 0))) (0, 0) = some (.inr (f.Dome.Gores.foldl (fun s g => s + runP f g) 0)) := by
  have hng := h.d.ng; have hst := h.s
  have hl := loop_fold (step := F_top_TopStiff_s2 n f (f.Dome.Bolts.map fun b => pullS f.Run ((numL b).headD 0))) f.Dome.Gores (fun i (s : Int) => (s, (i : Int))) (fun s g => s + runP f g) (fun s => (Sum.inr s : Bool ⊕ Int)) (fun i s => 0 ≤ s ∧ s ≤ i * 2120) (n := n) 0 (by simp) (fun i g s hg hI => by
    have hi : i < f.Dome.Gores.length := (List.getElem?_eq_some_iff.1 hg).1
    have hgm := List.mem_of_getElem? hg
    have hrb := run_in h hs hgm
    obtain ⟨b, hb, _, g2, _, g4⟩ := gore_get h.d hs.known hgm
    have hgb := h.d.g g hgm
    have hgo : geti (f.Dome.Bolts.map fun b => pullS f.Run ((numL b).headD 0)) g = some (runP f g) := by
      obtain ⟨q, rfl⟩ : ∃ q : Nat, g = (q : Int) := ⟨g.toNat, by omega⟩
      rw [geti_nat] at g4 ⊢
      rw [List.getElem?_map, g4]
      unfold runP boltOf
      rw [g2]; rfl
    obtain ⟨r, hr, hr12⟩ := p_Meets1 hn h hs (i := i) (by omega)
    have hc : (((0 : Int) != 0) || ((r != 1) && (r != 2))) = false := by
      rcases hr12 with rfl | rfl <;> rfl
    refine ⟨?_, by omega⟩
    simp only [F_top_TopStiff_s2, lt_nat, show i < f.Starts.length by omega, decide_true, if_true, geti_nat, hg, Option.bind_some, hgo, hr, hc, Bool.false_eq_true, if_false, w64_id (show -9223372036854775808 ≤ s + runP f g by omega) (show s + runP f g ≤ 9223372036854775807 by omega), w64_nat (show i ≤ 4611686018427387904 by omega)]) (fun s hI => by
    simp only [F_top_TopStiff_s2, lt_nat, decide_eq_false (show ¬ f.Dome.Gores.length < f.Starts.length by omega), Bool.false_eq_true, if_false]) (by omega)
  exact hl.1
theorem s3_run {f : Figure} (h : VF f) (hs : Single f.Dome) : loopO n (F_top_TopStiff_s3 n f) 0 = some (.inr ()) := by
  have hnr := h.d.nr; have hnw := h.d.nw
  have hl := loop_all (step := F_top_TopStiff_s3 n f) f.Dome.Rounds.length (fun _ => true) false (n := n) (by omega) (fun i hi => by
    obtain ⟨w, hw⟩ : ∃ w, f.Dome.Widths[i]? = some w := ⟨_, List.getElem?_eq_getElem (by omega)⟩
    obtain ⟨s, hs1⟩ := p_Round1 hn h.d hs hw
    obtain ⟨r, hr, hr12⟩ := p_tight hn h.d hs hw
    have hc : (((((0 : Int) != 0) || ((0 : Int) != 0)) || (s != s)) || ((r != 1) && (r != 2))) = false := by
      rcases hr12 with rfl | rfl <;> simp
    simp only [F_top_TopStiff_s3, lt_nat, hi, decide_true, if_true, hs1, hr, Option.bind_some, hc, Bool.false_eq_true, if_false, w64_nat (show i ≤ 4611686018427387904 by omega), cond_true]) (by simp [F_top_TopStiff_s3]) (by omega)
  have e : ((List.range f.Dome.Rounds.length).all fun _ => true) = true := by simp
  rw [e] at hl
  exact hl
end
theorem law_TopStiff (f : Figure) (_ : W_Figure f) : ∃ n, F_top_TopStiff n f = some true := by
  have hn : 200000000 ≤ 200000000 := Nat.le_refl _
  refine ⟨200000000, ?_⟩
  have hw := ok_sewn hn
  obtain ⟨b, hb, hv⟩ := p_Far04 hn f
  simp only [F_top_TopStiff, hb, Option.bind_some]
  cases b
  rotate_left
  · simp only [if_true, Option.bind_some, hw]
  obtain ⟨h1, h2, h3, h4, h5, h6, h7⟩ := hv rfl
  obtain ⟨e, he, hv2⟩ := p_CheckTruth hn (f := f) (by omega) h2 h3 h4 h5 h6
  simp only [Bool.false_eq_true, if_false, he, Option.bind_some]
  by_cases hz : e = 0
  rotate_left
  · have : (e != 0) = true := by simpa using hz
    simp only [this, if_true, Option.bind_some, hw]
  obtain ⟨hf, hk, hc⟩ := hv2 hz
  obtain ⟨k1, k2⟩ := h7 hc
  rw [hz]
  simp only [bne_self_eq_false, Bool.false_eq_true, if_false]
  have hnb := hf.d.nb
  have hp := hf.p
  have hst := hf.s
  have hs1 := s1_run hn hf hk f.Dome.Bolts.length 0 200000000 (by omega) (by omega) (by simp)
  rw [List.take_zero, List.map_nil, show ((0 : Nat) : Int) = 0 from rfl] at hs1
  rcases hs1 with hs1 | ⟨hs, hs1⟩
  · rw [hs1]; rfl
  · rw [hs1]
    simp only [Option.bind_some, s2_run hn hf hs, s3_run hn hf hs]
    have hsz : f.Period.toNat ^ (movesL f).length ≤ 100000 := by
      have hml : (movesL f).length ≤ 5 := by unfold movesL; rw [List.length_map]; omega
      have a1 : f.Period.toNat ^ (movesL f).length ≤ 8 ^ (movesL f).length := Nat.pow_le_pow_left (by omega) _
      have a2 : 8 ^ (movesL f).length ≤ 8 ^ 5 := Nat.pow_le_pow_right (by omega) hml
      omega
    obtain ⟨k, hk1, hk2, hk3⟩ := least (p := fun j : Nat => closedB f.Period (movesL f) (j : Int)) f.Period.toNat (by
      have : ((f.Period.toNat : Nat) : Int) = f.Period := by omega
      simp only [this]
      exact closed_all (by omega) _)
    have hclo := p_Closest hn hf hk hsz hk2 hk3 (by omega)
    have hsum : (f.Dome.Gores.foldl (fun s g => s + runP f g) 0).tmod f.Period = (f.Dome.Gores.foldl (fun s g => s + runP f g) 0) % f.Period := by
      refine Int.tmod_eq_emod_of_nonneg ?_
      have key : ∀ (l : List Int) (s : Int), (∀ g ∈ l, g ∈ f.Dome.Gores) → 0 ≤ s → 0 ≤ l.foldl (fun s g => s + runP f g) s := by
        intro l
        induction l with
        | nil => intro s _ h; exact h
        | cons g l ih =>
          intro s hm h
          have := (run_in hf hs (hm g (List.mem_cons_self ..))).1
          rw [List.foldl_cons]
          exact ih _ (fun x hx => hm x (List.mem_cons_of_mem _ hx)) (by omega)
      exact key _ 0 (fun g hg => hg) (Int.le_refl _)
    have hcr := closed_run hf hs
    have hfin : (((k : Int) == 0) == ((f.Dome.Gores.foldl (fun s g => s + runP f g) 0).tmod f.Period == 0)) = true := by
      rw [hsum]
      by_cases hk0 : k = 0
      · rw [hk0] at hk2
        simp only [show ((0 : Nat) : Int) = 0 from rfl] at hk2
        rw [hcr, decide_eq_true_eq] at hk2
        rw [hk0, hk2]; rfl
      · have := hk3 0 (by omega)
        simp only [show ((0 : Nat) : Int) = 0 from rfl] at this
        rw [hcr, decide_eq_false_iff_not] at this
        have e1 : ((k : Int) == 0) = false := by rw [beq_eq_false_iff_ne]; omega
        have e2 : ((f.Dome.Gores.foldl (fun s g => s + runP f g) 0) % f.Period == 0) = false := by rw [beq_eq_false_iff_ne]; exact this
        rw [e1, e2]; rfl
    simp only [hclo, Option.bind_some, beq_self_eq_true, if_true, nz_of (show f.Period ≠ 0 by omega), hfin, hw]
end Go.Proofs.Yteihdclpiekmaaa
end
section
namespace Go.Proofs.Yteihdclpiekmaaa
open Go Go.RowKit Go.Dec Go.ChangeShapes Go.WideShapes Go.ChangeAt
set_option linter.unusedVariables false
theorem cl_laidOut : laidOutB Try.prog = true := by kernel_rfl
theorem cl_own : ownKnob Try.prog.godebug = none := by kernel_rfl
set_option maxRecDepth 100000 in
set_option maxHeartbeats 1000000 in
theorem topStiff_contract (law : ∀ (x0 : Figure), W_Figure x0 → ∃ n, F_top_TopStiff n x0 = some true)
    (T : Type) (enc : TypeId × Value → T) (W : World) (base : Nat) (args : Array Value) (ds gs : List (DataW T)) (before : List MemPlace)
    (hval : ∀ (j : Nat) t v, Try.f3.params[j]? = some t → args[j]? = some v → Value.okWide Try.prog W .any base t v)
    (hW : DataW.Whole enc Try.prog Try.f3.params.toList Rows.topStiffSpec.vars false W args.toList ds gs before) :
    Calls Try.prog 3 args W fun e W' => ∃ v, e = .returned v ∧ Rows.topStiffSpec.post enc Try.prog Try.f3 false true false false W args v W' := by
  have hW' := hW
  obtain ⟨p, q, hA0, hV, rfl, hfz, hnd⟩ := hW
  have hA : DataW.TrodAll enc Try.prog W 0 (fun _ => true) true Try.f3.params.toList args.toList ds p := hA0
  rw [Try.params3] at hA hval
  obtain ⟨v0, vs0, d0, ds0, p0, q0, hargs, rfl, rfl, h0, r0⟩ := trodAll_cons hA
  obtain ⟨rfl, rfl, rfl⟩ := trodAll_nil r0
  obtain rfl : args = #[v0] := by rw [← Array.toArray_toList (xs := args), hargs]
  obtain ⟨rfl, rfl⟩ := trodVars_none hV
  obtain ⟨cs0, rfl, hs0⟩ := okWide_struct Try.underlying28 (hval 0 28 v0 rfl rfl)
  have k0 := h0
  obtain ⟨f0, e0⟩ := h0
  obtain ⟨_, x0, r0, w0⟩ := o_Figure _ _ _ _ _ _ _ e0
  obtain ⟨n, hn⟩ := law x0 w0
  obtain ⟨u0_0, u0_1, u0_2, u0_3, u0_4, u0_5, q0, s0_0, s0_1, s0_2, s0_3, s0_4, s0_5⟩ := r0
  have q0 : cs0.toList = _ := q0
  obtain rfl : cs0 = _ := by rw [← Array.toArray_toList (xs := cs0), q0]
  have hlt : ∀ x ∈ p0 ++ [], x.block < W.heap.size := fun x hx => hW'.lt x (by simpa using hx)
  refine ((c_top_TopStiff n (hw W) x0 u0_0 s0_0 u0_1 s0_1 u0_2 s0_2 u0_3 s0_3 u0_4 s0_4 u0_5 s0_5 true hn) W (hw_le W)).mono fun e W' ⟨he, hb0⟩ => ?_
  have hb := hb0.plain rfl
  subst he
  refine ⟨_, rfl, _, _, _, [], p0 ++ [], [], hW', trodAll_cons_mk (shut_bool Try.underlying4 _) trodAll_mk0, ?_, rfl, hb.frame _, fun h => by cases h⟩
  exact trodAll_cons_mk (Below.trod cl_laidOut (by kernel_rfl) (of_decide_eq_true (by kernel_rfl)) k0 hb (fun x hx => hlt x (List.mem_append_left _ hx))) trodAll_mk0
set_option maxRecDepth 100000 in
theorem topStiff_lifted (law : ∀ (x0 : Figure), W_Figure x0 → ∃ n, F_top_TopStiff n x0 = some true)
    (os : Os) (started : os.Started) (H : Type) (enc : TypeId × Value → H) :
    ReturnsInHanded {} Try.checked os 3 .any (Rows.topStiffSpec.pre6 enc Try.prog Try.f3 Rows.topStiffRow.domain false) (Rows.topStiffSpec.post enc Try.prog Try.f3 false true false false) := by
  refine returnsInHanded_of_change (C := Try.checked) cl_own started (by kernel_rfl) Try.func3
    (ChangeSpec.witness6 (enc := enc) (C := Try.checked) false ⟨#[], #[.agg #[.slice none 0 0, .slice none 0 0, .int .i64 0, .slice none 0 0, .slice none 0 0, .int .i64 0, .int .i64 0, .int .i64 0, .int .i64 0, .slice none 0 0, .slice none 0 0]], []⟩ 8 (by kernel_rfl) (by kernel_rfl) (by kernel_rfl) (by kernel_rfl)) ?_
  intro W base args ds gs before hval hW _ _
  exact topStiff_contract law H enc W base args ds gs before hval hW
theorem topStiff_holds (law : ∀ (x0 : Figure), W_Figure x0 → ∃ n, F_top_TopStiff n x0 = some true) : Rows.TopStiffSaid :=
  OpenClaim.holds_of_wide 3 Try.f3 rfl rfl rfl rfl rfl rfl rfl ⟨rfl, rfl, rfl, rfl, rfl⟩ rfl rfl rfl rfl rfl (by kernel_rfl) Try.func3 (by kernel_rfl)
    (of_decide_eq_true (by kernel_rfl)) (by unfold Func.isWrapper; first | (rw [if_pos (by decide +kernel)]; kernel_rfl) | (rw [if_neg (by decide +kernel)]; exact ⟨rfl, rfl⟩))
    (fun os started H enc _ => topStiff_lifted law os started H enc)
theorem topStiff_proved : Rows.TopStiffSaid := topStiff_holds law_TopStiff
end Go.Proofs.Yteihdclpiekmaaa
end
