/-
  Gusts, plain: what the statements need of the rounds.
-/
import Derived.Test.YteihdclpiekmaaaLfPgf
namespace Go.Proofs.Yteihdclpiekmaaa
open Go Go.RowKit Go.Dec
set_option linter.unusedVariables false

theorem ld_le {d : Canopy} (hd : DOk d) {g : Gust} (hf : 0 ≤ g.Force) (i : Nat) : 0 ≤ ldB d g i ∧ ldB d g i ≤ ldW d g i := by
  have := lift_in hd
  exact load_mono this.1 this.2.1 hd.sh rfl hf (Int.le_refl _) (sh_pos hd) i
theorem sure_may {d : Canopy} (hd : DOk d) {g : Gust} (hf : 0 ≤ g.Force) (k j : Nat) (hj : j < d.Ribs.length) (h : G (ldB d g) (stB d) d.Ribs.length k j = true) : G (ldW d g) (stW d) d.Ribs.length k j = true :=
  G_mono (by have := hd.r; omega) (fun i _ => ld_le hd hf i) (fun i hi => (st_in hd hi).2.1) k j hj h
theorem first_may {d : Canopy} (hd : DOk d) {g : Gust} {j : Nat} (h : firstP d g j = true) : mayP d g j = true := G_le (by have := hd.r; omega) h
theorem firstG_one (d : Canopy) (g : Gust) (h : askG d [g] = 0) : firstG d [g] = if noneP d.Ribs.length (firstP d g) = true then (0, [], 3) else (0, listS d.Ribs.length (firstP d g), 0) := by
  unfold firstG
  rw [if_pos h]
  have : (List.range [g].length).findSome? (firstE d [g]) = firstE d [g] 0 := by
    show (List.range 1).findSome? _ = _
    rw [show List.range 1 = [0] from rfl, List.findSome?_cons]
    cases firstE d [g] 0 <;> rfl
  rw [this]
  show (match (if noneP d.Ribs.length (firstP d g) = true then none else some ((0 : Int), listS d.Ribs.length (firstP d g), (0 : Int))) with | some r => r | none => (0, [], 3)) = _
  split <;> simp_all
theorem listS_le {N : Nat} {p q : Nat → Bool} (h : ∀ j, j < N → p j = true → q j = true) : (listS N p).length ≤ (listS N q).length := by
  unfold listS
  rw [List.length_map, List.length_map, ← List.countP_eq_length_filter, ← List.countP_eq_length_filter]
  exact List.countP_mono_left fun j hj => h j (List.mem_range.1 hj)
theorem listS_get {N : Nat} {p : Nat → Bool} {i : Nat} {x : Int} (h : (listS N p)[i]? = some x) : ∃ j : Nat, x = j ∧ j < N ∧ p j = true := by
  obtain ⟨j, hj, rfl⟩ := List.mem_map.1 (List.mem_of_getElem? h)
  obtain ⟨h1, h2⟩ := List.mem_filter.1 hj
  exact ⟨j, rfl, List.mem_range.1 h1, h2⟩
theorem listS_up (N : Nat) (p : Nat → Bool) : (listS N p).Pairwise (· < ·) := by
  unfold listS
  rw [List.pairwise_map]
  refine List.Pairwise.imp (fun h => by omega) (List.Pairwise.filter _ List.pairwise_lt_range)
theorem listS_lt {N : Nat} {p : Nat → Bool} {i : Nat} {x y : Int} (h1 : (listS N p)[i]? = some x) (h2 : (listS N p)[i + 1]? = some y) : x < y := by
  obtain ⟨h3, rfl⟩ := List.getElem?_eq_some_iff.1 h1
  obtain ⟨h4, rfl⟩ := List.getElem?_eq_some_iff.1 h2
  exact List.pairwise_iff_getElem.1 (listS_up N p) i (i + 1) h3 h4 (by omega)
theorem path_cons {N i st : Nat} (h : 2 ≤ N) : ∃ l, path N i st = ((i + st) % N) :: l := by
  obtain ⟨M, rfl⟩ : ∃ M, N = M + 2 := ⟨N - 2, by omega⟩
  unfold path
  rw [show M + 2 - 1 = M + 1 by omega, List.range'_succ, List.map_cons, Nat.one_mul]
  exact ⟨_, rfl⟩
/-- a rib that goes, but not in the first round, has a neighbour that goes -/
theorem neighbour {L S : Nat → Int} {N : Nat} (hN : 2 ≤ N) {j : Nat} (hj : j < N) (h1 : G L S N 1 j = false) : ∀ k, G L S N k j = true → G L S N k ((j + 1) % N) = true ∨ G L S N k ((j + (N - 1)) % N) = true
  | 0, h => by simp [G] at h
  | k + 1, h => by
    rw [G_succ hj] at h
    cases hg : G L S N k j
    · rw [hg] at h
      simp only [Bool.false_or, decide_eq_true_eq] at h
      rw [G_one] at h1
      simp only [hj, decide_true, Bool.true_and, decide_eq_false_iff_not] at h1
      cases ha : G L S N k ((j + 1) % N)
      · cases hb : G L S N k ((j + (N - 1)) % N)
        · exfalso
          obtain ⟨l1, e1⟩ := path_cons (N := N) (i := j) (st := 1) hN
          obtain ⟨l2, e2⟩ := path_cons (N := N) (i := j) (st := N - 1) hN
          have : bearsS L (G L S N k) N j = L j := by
            unfold bearsS
            rw [e1, e2, sideS_cons, sideS_cons, ha, hb]
            simp
          omega
        · exact .inr (G_up _ _ hb)
      · exact .inl (G_up _ _ ha)
    · rcases neighbour hN hj h1 k hg with h | h
      · exact .inl (G_up _ _ h)
      · exact .inr (G_up _ _ h)
theorem geti_setx {α : Type} {l : List α} {i : Nat} (h : i < l.length) (y : α) : geti (setx l (i : Int) y) (i : Int) = some y := by
  rw [geti_nat]; simp [setx, h]
theorem setx_setx {α : Type} (l : List α) (i : Int) (x y : α) : setx (setx l i x) i y = setx l i y := by simp [setx]
theorem setx_mem {α : Type} {l : List α} {i : Nat} {y z : α} (h : z ∈ setx l (i : Int) y) : z = y ∨ z ∈ l := by
  unfold setx at h
  rcases List.mem_or_eq_of_mem_set h with h | h
  · exact .inr h
  · exact .inl h
theorem setx_get {α : Type} {l : List α} {i : Nat} {y : α} (h : i < l.length) (j : Nat) : (setx l (i : Int) y)[j]? = if j = i then some y else l[j]? := by
  unfold setx
  rw [Int.toNat_natCast, List.getElem?_set]
  by_cases hij : i = j
  · subst hij; simp [h]
  · rw [if_neg hij, if_neg (fun e => hij e.symm)]
/-- domes that differ in their ribs alone -/
structure Same (d o : Canopy) : Prop where
  f : o.Frame = d.Frame
  s : o.Shares = d.Shares
  n : o.Ribs.length = d.Ribs.length
theorem Same.lift {d o : Canopy} (h : Same d o) : liftS o = liftS d := by unfold liftS; rw [h.f]
theorem Same.ldB {d o : Canopy} (h : Same d o) (g : Gust) : ldB o g = ldB d g := by unfold Go.Proofs.Yteihdclpiekmaaa.ldB; rw [h.lift, h.s]
theorem Same.ldW {d o : Canopy} (h : Same d o) (g : Gust) : ldW o g = ldW d g := by unfold Go.Proofs.Yteihdclpiekmaaa.ldW; rw [h.lift, h.s]
theorem setx_st {d : Canopy} {i : Nat} (hi : i < d.Ribs.length) {y : Span} {o : Canopy} (ho : o.Ribs = setx d.Ribs (i : Int) y) (j : Nat) : stB o j = (if j = i then y.High else stB d j) ∧ stW o j = (if j = i then y.Low else stW d j) := by
  have e1 : stB o j = (o.Ribs[j]?.map (·.High)).getD 0 := by unfold stB; rw [List.getElem?_map]
  have e2 : stW o j = (o.Ribs[j]?.map (·.Low)).getD 0 := by unfold stW; rw [List.getElem?_map]
  have e3 : stB d j = (d.Ribs[j]?.map (·.High)).getD 0 := by unfold stB; rw [List.getElem?_map]
  have e4 : stW d j = (d.Ribs[j]?.map (·.Low)).getD 0 := by unfold stW; rw [List.getElem?_map]
  rw [e1, e2, e3, e4, ho, setx_get hi]
  by_cases h : j = i
  · rw [if_pos h, if_pos h, if_pos h]; exact ⟨rfl, rfl⟩
  · rw [if_neg h, if_neg h, if_neg h]; exact ⟨rfl, rfl⟩
/-- more strength and less load: fewer go -/
theorem less_sure {d o : Canopy} (hd : DOk d) (hs : Same d o) {g g' : Gust} (hat : g'.At = g.At) (hf0 : 0 ≤ g'.Force) (hf : g'.Force ≤ g.Force) (hb : ∀ j, j < d.Ribs.length → stB d j ≤ stB o j) {k j : Nat} (hj : j < d.Ribs.length) (h : G (ldB o g') (stB o) d.Ribs.length k j = true) : G (ldB d g) (stB d) d.Ribs.length k j = true := by
  rw [hs.ldB] at h
  have := lift_in hd
  exact G_mono (by have := hd.r; omega) (fun i _ => load_mono this.1 (Int.le_refl _) hd.sh hat hf0 hf (sh_pos hd) i) hb k j hj h
theorem less_may {d o : Canopy} (hd : DOk d) (hs : Same d o) {g g' : Gust} (hat : g'.At = g.At) (hf0 : 0 ≤ g'.Force) (hf : g'.Force ≤ g.Force) (hb : ∀ j, j < d.Ribs.length → stW d j ≤ stW o j) {k j : Nat} (hj : j < d.Ribs.length) (h : G (ldW o g') (stW o) d.Ribs.length k j = true) : G (ldW d g) (stW d) d.Ribs.length k j = true := by
  rw [hs.ldW] at h
  have := lift_in hd
  exact G_mono (by have := hd.r; omega) (fun i _ => load_mono (by omega) (Int.le_refl _) hd.sh hat hf0 hf (sh_pos hd) i) hb k j hj h
theorem noneP_mono {N : Nat} {p q : Nat → Bool} (h : ∀ j, j < N → p j = true → q j = true) (hq : noneP N q = true) : noneP N p = true := noneP_iff.2 fun j hj => by
  cases hp : p j
  · rfl
  · have := noneP_iff.1 hq j hj
    rw [h j hj hp] at this; simp at this
theorem stands_one {d : Canopy} {l : List Gust} : standsI d l = 1 ↔ ∀ g ∈ l, noneP d.Ribs.length (firstP d g) = true := by
  unfold standsI
  rw [← List.all_eq_true]
  split
  · rename_i h; exact ⟨fun _ => h, fun _ => rfl⟩
  · rename_i h
    split <;> exact ⟨fun h2 => by simp at h2, fun h2 => absurd h2 h⟩
theorem firstB_P {d : Canopy} (hd : DOk d) {g : Gust} (hf : 0 ≤ g.Force) {j : Nat} (hj : j < d.Ribs.length) (h : firstB d g j = true) : firstP d g j = true := sure_may hd hf 1 j hj h
theorem stands_two {d : Canopy} (hd : DOk d) {l : List Gust} (hl : ∀ g ∈ l, 0 ≤ g.Force) : standsI d l = 2 ↔ ¬ ∀ g ∈ l, noneP d.Ribs.length (firstB d g) = true := by
  unfold standsI
  rw [← List.all_eq_true]
  split
  · rename_i h
    refine ⟨fun h2 => by simp at h2, fun h2 => absurd ?_ h2⟩
    rw [List.all_eq_true] at h ⊢
    exact fun g hg => noneP_mono (fun j hj => firstB_P hd (hl g hg) hj) (h g hg)
  · split
    · rename_i h; exact ⟨fun h2 => by simp at h2, fun h2 => absurd h h2⟩
    · rename_i h; exact ⟨fun _ => h, fun _ => rfl⟩
theorem stands_mem (d : Canopy) (l : List Gust) : standsI d l = 1 ∨ standsI d l = 2 ∨ standsI d l = 3 := by
  unfold standsI
  split
  · exact .inl rfl
  · split
    · exact .inr (.inr rfl)
    · exact .inr (.inl rfl)
end Go.Proofs.Yteihdclpiekmaaa
