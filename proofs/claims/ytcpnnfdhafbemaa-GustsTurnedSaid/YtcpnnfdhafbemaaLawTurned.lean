/-
  The plain law of GustsTurned.
-/
import Derived.Test.YtcpnnfdhafbemaaPgg
import Derived.Test.YtcpnnfdhafbemaaOpn
import Derived.Test.YtcpnnfdhafbemaaGGustsTurned
namespace Go.Proofs.Ytcpnnfdhafbemaa
open Go Go.RowKit Go.Dec
theorem mod2 {x N : Nat} (h : x < 2 * N) : x % N = if x < N then x else x - N := by
  split
  · rename_i h1; exact Nat.mod_eq_of_lt h1
  · rw [Nat.mod_eq_sub_mod (by omega), Nat.mod_eq_of_lt (by omega)]
theorem rot_path {N b i st : Nat} : path N ((i + b) % N) st = (path N i st).map fun x => (x + b) % N := by
  unfold path
  rw [List.map_map]
  refine List.map_congr_left fun k _ => ?_
  simp only [Function.comp]
  rw [Nat.mod_add_mod, Nat.mod_add_mod]
  congr 1; omega
theorem rot_side {L L' : Nat → Int} {p p' : Nat → Bool} {N b : Nat} (hL : ∀ i, i < N → L' i = L ((i + b) % N)) (hp : ∀ i, i < N → p' i = p ((i + b) % N)) : ∀ (l : List Nat), (∀ x ∈ l, x < N) → sideS L' p' l = sideS L p (l.map fun x => (x + b) % N)
  | [], _ => rfl
  | a :: l, h => by
    have ha := h a (List.mem_cons_self ..)
    rw [List.map_cons, sideS_cons, sideS_cons, hL a ha, hp a ha, rot_side hL hp l fun x hx => h x (List.mem_cons_of_mem _ hx)]
theorem G_rot {L L' S S' : Nat → Int} {N b : Nat} (hN : 0 < N) (hL : ∀ i, i < N → L' i = L ((i + b) % N)) (hS : ∀ i, i < N → S' i = S ((i + b) % N)) : ∀ k i, i < N → G L' S' N k i = G L S N k ((i + b) % N)
  | 0, _, _ => rfl
  | k + 1, i, hi => by
    have ih := G_rot hN hL hS k
    rw [G_succ hi, G_succ (Nat.mod_lt _ hN), ih i hi, hS i hi]
    have : bearsS L' (G L' S' N k) N i = bearsS L (G L S N k) N ((i + b) % N) := by
      unfold bearsS
      rw [hL i hi, rot_path, rot_path, rot_side hL ih _ fun x hx => path_lt hN hx, rot_side hL ih _ fun x hx => path_lt hN hx]
    rw [this]
theorem rot_count {N B : Nat} (hN : 0 < N) (p : Nat → Bool) : (listS N fun i => p ((i + B) % N)).length = (listS N p).length := by
  have hb : B % N < N := Nat.mod_lt _ hN
  have e0 : (fun i => p ((i + B) % N)) = fun i => p ((i + B % N) % N) := by funext i; rw [Nat.add_mod_mod]
  rw [e0]
  generalize B % N = b at hb
  unfold listS
  rw [List.length_map, List.length_map, ← List.countP_eq_length_filter, ← List.countP_eq_length_filter]
  have h1 : List.range N = List.range (N - b) ++ (List.range b).map ((N - b) + ·) := by rw [← List.range_add]; congr 1; omega
  have h2 : List.range N = List.range b ++ (List.range (N - b)).map (b + ·) := by rw [← List.range_add]; congr 1; omega
  have a1 : (List.range N).countP (fun i => p ((i + b) % N)) = (List.range (N - b)).countP (fun i => p (b + i)) + (List.range b).countP p := by
    rw [h1, List.countP_append, List.countP_map]
    congr 1
    · refine List.countP_congr fun i hi => ?_
      rw [Nat.mod_eq_of_lt (by have := List.mem_range.1 hi; omega), Nat.add_comm]
    · refine List.countP_congr fun i hi => ?_
      have := List.mem_range.1 hi
      simp only [Function.comp]
      rw [show N - b + i + b = i + N by omega, Nat.add_mod_right, Nat.mod_eq_of_lt (by omega)]
  have a2 : (List.range N).countP p = (List.range b).countP p + (List.range (N - b)).countP (fun i => p (b + i)) := by
    rw [h2, List.countP_append, List.countP_map]; rfl
  rw [a1, a2]; omega
theorem law_GustsTurned (d : Canopy) (g : Gust) (by_ : Int) (_ : W_Canopy d) (_ : W_Gust g) (_ : I64 by_) : ∃ n, F_law05_GustsTurned n d g by_ = some true := by
  have hn : 100000000 ≤ 100000000 := Nat.le_refl _
  refine ⟨100000000, ?_⟩
  have hw := works_any hn
  simp only [F_law05_GustsTurned]
  rcases p_ready hn d (l := [g]) (by simp) (by simp) with h | ⟨h, hask⟩
  · simp [h, hw]
  · obtain ⟨hd, _, hg⟩ := askG_ok.1 hask
    have hg := hg g (by simp)
    have hs := hd.small
    have hr := hd.r
    simp only [h, Option.bind_some, Bool.not_true, Bool.false_or]
    split
    · rw [hw]; rfl
    · rename_i hC
      simp only [Bool.or_eq_true, decide_eq_true_eq, not_or] at hC
      obtain ⟨B, rfl⟩ : ∃ B : Nat, by_ = B := ⟨by_.toNat, by omega⟩
      have hB : B ≤ 100 := by omega
      have hz : nz (d.Ribs.length : Int) = some () := nz_nat (by omega)
      have hN : 0 < d.Ribs.length := by omega
      obtain ⟨A, hA⟩ : ∃ A : Nat, g.At = A := ⟨g.At.toNat, by have := hg.a; omega⟩
      have hAN : A < d.Ribs.length := by have := hg.a; omega
      have hBN := Nat.mod_lt B hN
      have hidx : ∀ i : Nat, i < d.Ribs.length → (w64 ((i : Int) + (B : Int))).tmod (d.Ribs.length : Int) = (((i + B) % d.Ribs.length : Nat) : Int) := fun i hi => by
        rw [w64_id (by omega) (by omega)]
        have : (i : Int) + (B : Int) = ((i + B : Nat) : Int) := by omega
        rw [this]; rfl
      have hat : (w64 (w64 (g.At - ((B : Int).tmod (d.Ribs.length : Int))) + (d.Ribs.length : Int))).tmod (d.Ribs.length : Int) = (((A + d.Ribs.length - B % d.Ribs.length) % d.Ribs.length : Nat) : Int) := by
        rw [hA, tmod_nat, w64_id (n := (A : Int) - _) (by omega) (by omega), w64_id (by omega) (by omega)]
        have : (A : Int) - ((B % d.Ribs.length : Nat) : Int) + (d.Ribs.length : Int) = ((A + d.Ribs.length - B % d.Ribs.length : Nat) : Int) := by omega
        rw [this]; rfl
      have hA' := Nat.mod_lt (A + d.Ribs.length - B % d.Ribs.length) hN
      -- the turned ribs
      have hrb : d.Ribs = lst d.Ribs.length fun j => (d.Ribs[j]?).getD ⟨0, 0⟩ := by
        refine List.ext_getElem (by rw [lst_len]) fun j h1 h2 => ?_
        simp [lst, h1]
      have k1 := loop_foldl (step := F_law05_GustsTurned_s1 100000000 d (B : Int)) (List.range d.Ribs.length) (fun i (_ : Unit) => ((i : Int), part d.Ribs.length i (fun j => (d.Ribs[(j + B) % d.Ribs.length]?).getD ⟨0, 0⟩) (fun j => (d.Ribs[j]?).getD ⟨0, 0⟩))) (fun b _ => b) (fun _ => lst d.Ribs.length fun j => (d.Ribs[(j + B) % d.Ribs.length]?).getD ⟨0, 0⟩) (n := 100000000) () (fun i x b hx hi => by
        simp only [List.length_range] at hi
        have hm := Nat.mod_lt (i + B) hN
        have hget : d.Ribs[(i + B) % d.Ribs.length]? = some ((d.Ribs[(i + B) % d.Ribs.length]?).getD ⟨0, 0⟩) := by simp [hm]
        simp only [F_law05_GustsTurned_s1, lt_nat, hi, decide_true, if_true, hz, hidx i hi, Option.bind_some, geti_nat, part_get _ _ hi, w64_nat (show i ≤ 4611686018427387904 by omega)]
        rw [hget]
        simp only [Option.bind_some]
        rw [part_set _ _ hi rfl]) (fun b => by
        simp only [List.length_range, part_all]
        simp [F_law05_GustsTurned_s1]) (by simp; omega)
      simp only [part_zero, show ((0 : Nat) : Int) = 0 from rfl] at k1
      rw [← hrb] at k1
      generalize hR : (lst d.Ribs.length fun j => (d.Ribs[(j + B) % d.Ribs.length]?).getD (Span.mk 0 0)) = R at k1
      have hRl : R.length = d.Ribs.length := by rw [← hR, lst_len]
      have hRg : ∀ j, j < d.Ribs.length → R[j]? = d.Ribs[(j + B) % d.Ribs.length]? := fun j hj => by
        have hm := Nat.mod_lt (j + B) hN
        rw [← hR, lst_get _ hj]; simp [hm]
      generalize hg' : Gust.mk g.Force (((A + d.Ribs.length - B % d.Ribs.length) % d.Ribs.length : Nat) : Int) = g'
      generalize hO : Canopy.mk d.Frame R d.Shares = o
      have same : Same d o := by rw [← hO]; exact ⟨rfl, rfl, hRl⟩
      have hdo : DOk o := by
        rw [← hO]
        refine ⟨hd.f, by rw [hRl]; exact hr, by rw [hRl]; exact hd.s, fun s hsm => ?_, hd.sh⟩
        obtain ⟨j, hj, rfl⟩ := List.getElem_of_mem hsm
        have hj' : j < R.length := hj
        have h1 := hRg j (by omega)
        rw [List.getElem?_eq_getElem hj] at h1
        exact hd.ribs _ (List.mem_of_getElem? h1.symm)
      have hgo : GOk o.Ribs.length g' := by
        rw [same.n, ← hg']
        exact ⟨hg.f, Int.natCast_nonneg _, Int.ofNat_lt.2 hA'⟩
      have hasko : askG o [g'] = 0 := askG_ok.2 ⟨hdo, by simp, fun z hz => by rw [List.mem_singleton.1 hz]; exact hgo⟩
      have stb : ∀ i, i < d.Ribs.length → stB o i = stB d ((i + B) % d.Ribs.length) := fun i hi => by
        unfold stB
        rw [List.getElem?_map, List.getElem?_map, ← hO]
        simp only
        rw [hRg i hi]
      have stw : ∀ i, i < d.Ribs.length → stW o i = stW d ((i + B) % d.Ribs.length) := fun i hi => by
        unfold stW
        rw [List.getElem?_map, List.getElem?_map, ← hO]
        simp only
        rw [hRg i hi]
      have hsh : ∀ i, i < d.Ribs.length → shareS d.Shares g' i = shareS d.Shares g ((i + B) % d.Ribs.length) := fun i hi => by
        unfold shareS
        have e : (i + d.Shares.length - g'.At.toNat) % d.Shares.length = ((i + B) % d.Ribs.length + d.Shares.length - g.At.toNat) % d.Shares.length := by
          rw [hd.s, hA, ← hg']
          simp only [Int.toNat_natCast]
          have e1 : (i + B) % d.Ribs.length = (i + B % d.Ribs.length) % d.Ribs.length := by rw [Nat.add_mod_mod]
          rw [e1]
          generalize B % d.Ribs.length = b at hBN hA'
          generalize d.Ribs.length = M at *
          have m1 := mod2 (x := A + M - b) (N := M) (by omega)
          have m2 := mod2 (x := i + b) (N := M) (by omega)
          have m3 := mod2 (x := i + M - (A + M - b) % M) (N := M) (by omega)
          have m4 := mod2 (x := (i + b) % M + M - A) (N := M) (by have := Nat.mod_lt (i + b) hN; omega)
          rw [m3, m4, m1, m2]
          (repeat' split) <;> omega
        rw [e]
      have hfo : g'.Force = g.Force := by rw [← hg']
      have ldb : ∀ i, i < d.Ribs.length → ldB o g' i = ldB d g ((i + B) % d.Ribs.length) := fun i hi => by
        rw [same.ldB]; unfold ldB loadS; rw [hsh i hi, hfo]
      have ldw : ∀ i, i < d.Ribs.length → ldW o g' i = ldW d g ((i + B) % d.Ribs.length) := fun i hi => by
        rw [same.ldW]; unfold ldW loadS; rw [hsh i hi, hfo]
      have sure : ∀ i, i < d.Ribs.length → sureP o g' i = sureP d g ((i + B) % d.Ribs.length) := fun i hi => by
        unfold sureP; rw [same.n]; exact G_rot hN ldb stb _ i hi
      have may : ∀ i, i < d.Ribs.length → mayP o g' i = mayP d g ((i + B) % d.Ribs.length) := fun i hi => by
        unfold mayP; rw [same.n]; exact G_rot hN ldw stw _ i hi
      have hgo1 : goesT d g = (listS d.Ribs.length (sureP d g), listS d.Ribs.length (mayP d g), 0) := by unfold goesT; rw [if_pos hask]
      have hgo2 : goesT o g' = (listS d.Ribs.length (fun i => sureP d g ((i + B) % d.Ribs.length)), listS d.Ribs.length (fun i => mayP d g ((i + B) % d.Ribs.length)), 0) := by
        unfold goesT; rw [if_pos hasko, same.n, listS_congr sure, listS_congr may]
      have l1 := listS_len hr.2 (sureP d g)
      have l2 := listS_len hr.2 (mayP d g)
      have r1 := rot_count (B := B) hN (sureP d g)
      have r2 := rot_count (B := B) hN (mayP d g)
      have d1 : decide ((d.Ribs.length : Int) < ((listS d.Ribs.length (mayP d g)).length : Int)) = false := by simp; omega
      have d2 : decide ((d.Ribs.length : Int) < ((listS d.Ribs.length (sureP d g)).length : Int)) = false := by simp; omega
      have lp2 : ∀ (z w : List Int), loopO 100000000 (F_law05_GustsTurned_s2 100000000 d (B : Int) (listS d.Ribs.length (sureP d g), z, 0) (listS d.Ribs.length (fun i => sureP d g ((i + B) % d.Ribs.length)), w, 0)) 0 = some (.inr ()) := fun z w => by
        have kk := loop_all_l (step := F_law05_GustsTurned_s2 100000000 d (B : Int) (listS d.Ribs.length (sureP d g), z, 0) (listS d.Ribs.length (fun i => sureP d g ((i + B) % d.Ribs.length)), w, 0)) (listS d.Ribs.length (fun i => sureP d g ((i + B) % d.Ribs.length))) (fun _ => true) false (n := 100000000) (by omega) (fun i x hx hi => ?_) ?_ (by omega)
        · rw [kk]
          have e : ((listS d.Ribs.length (fun i => sureP d g ((i + B) % d.Ribs.length))).all fun _ => true) = true := by simp
          rw [e]; rfl
        · obtain ⟨j, rfl, hj, hp⟩ := listS_get hx
          have h0 : decide ((j : Int) < 0) = false := by simp
          have h1 : decide ((d.Ribs.length : Int) ≤ (j : Int)) = false := by simp; omega
          have hm := Nat.mod_lt (j + B) hN
          simp only [F_law05_GustsTurned_s2, lt_nat, hi, decide_true, if_true, geti_nat, hx, Option.bind_some, h0, h1, Bool.false_eq_true, if_false, hz, hidx j hj, p_in hn _ (show (listS d.Ribs.length (sureP d g)).length ≤ 10000 by omega), listS_mem, hm, hp, Bool.and_self, Bool.not_true, cond_true, w64_nat (show i ≤ 4611686018427387904 by omega)]
        · simp [F_law05_GustsTurned_s2]
      have lp3 : ∀ (z w : List Int), loopO 100000000 (F_law05_GustsTurned_s3 100000000 d (B : Int) (z, listS d.Ribs.length (mayP d g), 0) (w, listS d.Ribs.length (fun i => mayP d g ((i + B) % d.Ribs.length)), 0)) 0 = some (.inr ()) := fun z w => by
        have kk := loop_all_l (step := F_law05_GustsTurned_s3 100000000 d (B : Int) (z, listS d.Ribs.length (mayP d g), 0) (w, listS d.Ribs.length (fun i => mayP d g ((i + B) % d.Ribs.length)), 0)) (listS d.Ribs.length (fun i => mayP d g ((i + B) % d.Ribs.length))) (fun _ => true) false (n := 100000000) (by omega) (fun i x hx hi => ?_) ?_ (by omega)
        · rw [kk]
          have e : ((listS d.Ribs.length (fun i => mayP d g ((i + B) % d.Ribs.length))).all fun _ => true) = true := by simp
          rw [e]; rfl
        · obtain ⟨j, rfl, hj, hp⟩ := listS_get hx
          have h0 : decide ((j : Int) < 0) = false := by simp
          have h1 : decide ((d.Ribs.length : Int) ≤ (j : Int)) = false := by simp; omega
          have hm := Nat.mod_lt (j + B) hN
          simp only [F_law05_GustsTurned_s3, lt_nat, hi, decide_true, if_true, geti_nat, hx, Option.bind_some, h0, h1, Bool.false_eq_true, if_false, hz, hidx j hj, p_in hn _ (show (listS d.Ribs.length (mayP d g)).length ≤ 10000 by omega), listS_mem, hm, hp, Bool.and_self, Bool.not_true, cond_true, w64_nat (show i ≤ 4611686018427387904 by omega)]
        · simp [F_law05_GustsTurned_s3]
      have b1 : (((listS d.Ribs.length (sureP d g)).length : Int) != ((listS d.Ribs.length (fun i => sureP d g ((i + B) % d.Ribs.length))).length : Int)) = false := by rw [r1]; simp
      have b2 : (((listS d.Ribs.length (mayP d g)).length : Int) != ((listS d.Ribs.length (fun i => mayP d g ((i + B) % d.Ribs.length))).length : Int)) = false := by rw [r2]; simp
      simp only [p_Copy05 hn hs, Option.bind_some, k1, hz, hat, hg', hO, p_Goes hn hs, p_Goes hn hdo.small, hgo1, hgo2, bne_self_eq_false, b1, b2, d1, d2, Bool.or_self, Bool.false_eq_true, if_false, lp2, lp3, hw]
end Go.Proofs.Ytcpnnfdhafbemaa
