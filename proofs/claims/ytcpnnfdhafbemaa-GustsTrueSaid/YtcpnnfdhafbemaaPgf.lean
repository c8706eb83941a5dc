/-
  Gusts, plain: the reference's answers; the small functions of the statements.
-/
import Derived.Test.YtcpnnfdhafbemaaPge
namespace Go.Proofs.Ytcpnnfdhafbemaa
open Go Go.RowKit Go.Dec
set_option linter.unusedVariables false

def fewT (d : Canopy) : ref05_Truth := ⟨(liftS d).Low, d.Ribs.map (·.High)⟩
def manyT (d : Canopy) : ref05_Truth := ⟨(liftS d).High, d.Ribs.map (·.Low)⟩
theorem few_ok {d : Canopy} (hd : DOk d) : TOk d.Ribs.length (fewT d) := by
  have := lift_in hd
  exact ⟨by simp only [fewT]; omega, by simp [fewT]⟩
theorem many_ok {d : Canopy} (hd : DOk d) : TOk d.Ribs.length (manyT d) := by
  have := lift_in hd
  exact ⟨by simp only [manyT]; omega, by simp [manyT]⟩
def standIn (d : Canopy) (l : List Gust) (t : ref05_Truth) : Bool := l.all fun g => noneP d.Ribs.length (G (ldT d t g) (trS t) d.Ribs.length d.Ribs.length)
theorem stand_many {d : Canopy} (hd : DOk d) (l : List Gust) : standIn d l (manyT d) = l.all fun g => noneP d.Ribs.length (firstP d g) := by
  unfold standIn
  congr 1; funext g
  exact none_G (by have := hd.r; omega)
theorem stand_few {d : Canopy} (hd : DOk d) (l : List Gust) : standIn d l (fewT d) = l.all fun g => noneP d.Ribs.length (firstB d g) := by
  unfold standIn
  congr 1; funext g
  exact none_G (by have := hd.r; omega)
section
variable {n : Nat} (hn : 100000000 ≤ n)
include hn
theorem p_ends05 {d : Canopy} (hd : DOk d) : F_ref05_ends n d = some (fewT d, manyT d) := by
  have hr := hd.r
  have kk := loop_fold (step := F_ref05_ends_s1 n d) d.Ribs (fun i (z : List Int × List Int) => ((i : Int), z.1, z.2)) (fun z s => (z.1 ++ [s.High], z.2 ++ [s.Low])) (fun z => (z.1, z.2)) (fun i z => z.1.length = i ∧ z.2.length = i) (n := n) ([], []) ⟨rfl, rfl⟩ (fun i x z hx hz => ?_) (fun z hz => ?_) (by omega)
  · have k1 := kk.1
    rw [show ((0 : Nat) : Int) = 0 from rfl] at k1
    simp only at k1
    simp only [F_ref05_ends, p_lift05 hn hd, Option.bind_some, k1, fewT, manyT]
    have e := foldl_pair (fun (z : List Int) (s : Span) => z ++ [s.High]) (fun (z : List Int) (s : Span) => z ++ [s.Low]) d.Ribs [] []
    rw [e, foldl_append_map, foldl_append_map]
    rfl
  · have hi := (List.getElem?_eq_some_iff.1 hx).1
    refine ⟨?_, ?_⟩
    · simp only [F_ref05_ends_s1, lt_nat, hi, decide_true, if_true, geti_nat, hx, Option.bind_some]
      rw [lim_ok (by simp; omega), lim_ok (by simp; omega)]
      simp only [Option.bind_some, w64_nat (show i ≤ 4611686018427387904 by omega)]
    · simp [hz.1, hz.2]
  · simp [F_ref05_ends_s1]
theorem p_Lift05 {d : Canopy} (hs : Small d) : F_ref05_Lift n d = some (liftT d) := by
  simp only [F_ref05_Lift, p_Check05 hn hs, Option.bind_some, liftT]
  by_cases h : okD d = true
  · simp [h, p_lift05 hn (okD_iff.1 h)]
  · simp [h]
theorem p_Loads05 {d : Canopy} (hs : Small d) (g : Gust) : F_ref05_Loads n d g = some (loadsT d g) := by
  simp only [F_ref05_Loads, p_check05 hn hs (l := [g]) (by simp), Option.bind_some, loadsT]
  by_cases h : askG d [g] = 0
  · obtain ⟨hd, _, hg⟩ := askG_ok.1 h
    have hg := hg g (by simp)
    have hr := hd.r
    have hli := lift_in hd
    simp only [h, bne_self_eq_false, Bool.false_eq_true, if_false, if_true, p_lift05 hn hd, Option.bind_some]
    have kk := loop_fold (step := F_ref05_Loads_s1 n d g (liftS d)) (List.range d.Ribs.length) (fun i (z : List Span) => ((i : Int), z)) (fun z i => z ++ [⟨ldB d g i, ldW d g i⟩]) (fun z => z) (fun i z => z.length = i) (n := n) [] rfl (fun i x z hx hz => ?_) (fun z hz => ?_) (by simp; omega)
    · have k1 := kk.1
      rw [show ((0 : Nat) : Int) = 0 from rfl] at k1
      rw [k1, foldl_append_map]
      rfl
    · obtain ⟨hi, hxi⟩ := List.getElem?_eq_some_iff.1 hx
      simp at hi hxi
      subst hxi
      refine ⟨?_, by simp [hz]⟩
      simp only [F_ref05_Loads_s1, lt_nat, hi, decide_true, if_true, p_Load05 hn hd hg (l := (liftS d).Low) (by omega) hi, p_Load05 hn hd hg (l := (liftS d).High) (by omega) hi, Option.bind_some]
      rw [lim_ok (by simp; omega)]
      simp only [Option.bind_some, w64_nat (show i ≤ 4611686018427387904 by omega)]
      rfl
    · simp [F_ref05_Loads_s1]
  · simp [h]
theorem p_Goes05 {d : Canopy} (hs : Small d) (g : Gust) : F_ref05_Goes n d g = some (goesT d g) := by
  simp only [F_ref05_Goes, p_check05 hn hs (l := [g]) (by simp), Option.bind_some, goesT]
  by_cases h : askG d [g] = 0
  · obtain ⟨hd, _, hg⟩ := askG_ok.1 h
    have hg := hg g (by simp)
    have hr := hd.r
    have e1 : listS d.Ribs.length (fun j => wi (rnd (ldT d (fewT d) g) (trS (fewT d)) d.Ribs.length d.Ribs.length j) 1 d.Ribs.length) = listS d.Ribs.length (sureP d g) := listS_congr fun j hj => rnd_wi hj
    have e2 : listS d.Ribs.length (fun j => wi (rnd (ldT d (manyT d) g) (trS (manyT d)) d.Ribs.length d.Ribs.length j) 1 d.Ribs.length) = listS d.Ribs.length (mayP d g) := listS_congr fun j hj => rnd_wi hj
    simp only [h, bne_self_eq_false, Bool.false_eq_true, if_false, if_true, p_ends05 hn hd, Option.bind_some, p_Rounds hn hd hg (few_ok hd), p_Rounds hn hd hg (many_ok hd), p_went hn hr.2, e1, e2]
  · simp [h]
theorem p_StandsIn {d : Canopy} (hd : DOk d) {l : List Gust} (hl : l.length ≤ 1000) (hg : ∀ g ∈ l, GOk d.Ribs.length g) {t : ref05_Truth} (ht : TOk d.Ribs.length t) : F_ref05_StandsIn n d l t = some (standIn d l t) := by
  have hr := hd.r
  unfold F_ref05_StandsIn
  have kk := loop_all_l (step := F_ref05_StandsIn_s1 n d l t) l (fun g => noneP d.Ribs.length (G (ldT d t g) (trS t) d.Ribs.length d.Ribs.length)) false (n := n) (by omega) (fun i x hx hi => ?_) ?_ (by omega)
  · rw [kk]
    unfold standIn
    cases l.all fun g => noneP d.Ribs.length (G (ldT d t g) (trS t) d.Ribs.length d.Ribs.length) <;> rfl
  · have hgx := hg x (List.mem_of_getElem? hx)
    have e1 : listS d.Ribs.length (fun j => wi (rnd (ldT d t x) (trS t) d.Ribs.length d.Ribs.length j) 1 d.Ribs.length) = listS d.Ribs.length (G (ldT d t x) (trS t) d.Ribs.length d.Ribs.length) := listS_congr fun j hj => rnd_wi hj
    simp only [F_ref05_StandsIn_s1, lt_nat, hi, decide_true, if_true, geti_nat, hx, Option.bind_some, p_Rounds hn hd hgx ht, p_went hn hr.2, e1, listS_none, w64_nat (show i ≤ 4611686018427387904 by omega)]
    cases noneP d.Ribs.length (G (ldT d t x) (trS t) d.Ribs.length d.Ribs.length) <;> rfl
  · simp [F_ref05_StandsIn_s1]
theorem p_Stands05 {d : Canopy} (hs : Small d) {l : List Gust} (hl : l.length ≤ 1000) : F_ref05_Stands n d l = some (standsT d l) := by
  simp only [F_ref05_Stands, p_check05 hn hs hl, Option.bind_some, standsT]
  by_cases h : askG d l = 0
  · obtain ⟨hd, _, hg⟩ := askG_ok.1 h
    simp only [h, bne_self_eq_false, Bool.false_eq_true, if_false, if_true, p_ends05 hn hd, Option.bind_some, p_StandsIn hn hd hl hg (many_ok hd), p_StandsIn hn hd hl hg (few_ok hd), stand_many hd, stand_few hd, standsI]
    cases (l.all fun g => noneP d.Ribs.length (firstP d g))
    · cases (l.all fun g => noneP d.Ribs.length (firstB d g)) <;> rfl
    · rfl
  · simp [h]
theorem p_First05 {d : Canopy} (hs : Small d) {l : List Gust} (hl : l.length ≤ 1000) : F_ref05_First n d l = some (firstG d l) := by
  simp only [F_ref05_First, p_check05 hn hs hl, Option.bind_some, firstG]
  by_cases h : askG d l = 0
  · obtain ⟨hd, _, hg⟩ := askG_ok.1 h
    have hr := hd.r
    simp only [h, bne_self_eq_false, Bool.false_eq_true, if_false, if_true, p_ends05 hn hd, Option.bind_some]
    have kk := loop_find (step := F_ref05_First_s1 n d l (fewT d, manyT d)) (firstE d l) (n := n) l.length (fun i hi => ?_) ?_ (by omega)
    · rw [kk]
      cases (List.range l.length).findSome? (firstE d l) <;> rfl
    · have hx : l[i]? = some l[i] := List.getElem?_eq_getElem hi
      have hgm := hg _ (List.getElem_mem hi)
      have e1 : listS d.Ribs.length (fun j => wi (rnd (ldT d (manyT d) l[i]) (trS (manyT d)) d.Ribs.length d.Ribs.length j) 1 1) = listS d.Ribs.length (firstP d l[i]) := listS_congr fun j hj => rnd_wi1 hj
      simp only [F_ref05_First_s1, lt_nat, hi, decide_true, if_true, geti_nat, hx, Option.bind_some, p_Rounds hn hd hgm (many_ok hd), p_went hn hr.2, e1, listS_none, firstE, w64_nat (show i ≤ 4611686018427387904 by omega)]
      cases hc : noneP d.Ribs.length (firstP d l[i]) <;> simp
    · simp [F_ref05_First_s1]
  · simp [h]
theorem p_Most05 {d : Canopy} (hs : Small d) (at_ : Int) : F_ref05_Most n d at_ = some (mostT d at_) := by
  simp only [F_ref05_Most, p_check05 hn hs (l := [⟨0, at_⟩]) (by simp), Option.bind_some, mostT]
  by_cases h : askG d [⟨0, at_⟩] = 0
  · obtain ⟨hd, _, hg⟩ := askG_ok.1 h
    have hg := (hg _ (List.mem_singleton.2 rfl)).a
    simp only [h, bne_self_eq_false, Bool.false_eq_true, if_false, if_true, p_ends05 hn hd, Option.bind_some]
    have kk := loop_foldl (step := F_ref05_Most_s1 n d at_ (fewT d, manyT d)) (List.range 100) (fun i (m : Nat) => ((i : Int), (m : Int))) (fun m f => if standF d at_ f = true then f else m) (fun m => (m : Int)) (n := n) 0 (fun i x b hx hi => ?_) (fun b => ?_) (by simp; omega)
    · simp only [show ((0 : Nat) : Int) = 0 from rfl] at kk
      rw [kk]; rfl
    · obtain ⟨_, hxi⟩ := List.getElem?_eq_some_iff.1 hx
      simp at hi hxi
      subst hxi
      have hle : decide ((i : Int) ≤ 99) = true := by simp; omega
      have hst := p_StandsIn hn hd (l := [⟨(i : Int), at_⟩]) (by simp) (fun g hg' => by
        rw [List.mem_singleton.1 hg']; exact ⟨by simp; omega, hg⟩) (many_ok hd)
      rw [stand_many hd] at hst
      have e : ([(⟨(i : Int), at_⟩ : Gust)].all fun g => noneP d.Ribs.length (firstP d g)) = standF d at_ i := by simp [standF]
      rw [e] at hst
      simp only [F_ref05_Most_s1, hle, if_true, hst, Option.bind_some, w64_nat (show i ≤ 4611686018427387904 by omega)]
      cases standF d at_ i <;> rfl
    · simp [F_ref05_Most_s1]
  · simp [h]
theorem p_Weak05 {d : Canopy} (hs : Small d) {l : List Gust} (hl : l.length ≤ 1000) : F_ref05_Weak n d l = some (weakT d l) := by
  simp only [F_ref05_Weak, p_check05 hn hs hl, Option.bind_some, weakT]
  by_cases h : askG d l = 0
  · obtain ⟨hd, _, hg⟩ := askG_ok.1 h
    have hr := hd.r
    have hli := lift_in hd
    simp only [h, bne_self_eq_false, Bool.false_eq_true, if_false, if_true, p_lift05 hn hd, Option.bind_some]
    have inner : ∀ i, i < d.Ribs.length → loopO n (F_ref05_Weak_s2 n d l (liftS d) (i : Int)) (false, 0) = some (weakP d l i) := fun i hi => by
      obtain ⟨s, hs1, _⟩ := rib_get hi
      have kk := loop_foldl (step := F_ref05_Weak_s2 n d l (liftS d) (i : Int)) l (fun k (b : Bool) => (b, (k : Int))) (fun b g => b || firstP d g i) (fun b => b) (n := n) false (fun k x b hx hk => by
        have hgx := hg x (List.mem_of_getElem? hx)
        have e : firstP d x i = decide (s.Low < ldW d x i) := by rw [firstP_eq, stW_get hs1]; simp [hi]
        simp only [F_ref05_Weak_s2, lt_nat, hk, decide_true, if_true, geti_nat, hx, hs1, Option.bind_some, p_Load05 hn hd hgx (l := (liftS d).High) (by omega) hi, or_br, w64_nat (show k ≤ 4611686018427387904 by omega), e]
        rfl) (fun b => by simp [F_ref05_Weak_s2]) (by omega)
      simp only [show ((0 : Nat) : Int) = 0 from rfl] at kk
      rw [kk]
      have e : ∀ (l : List Gust) (b : Bool), l.foldl (fun b g => b || firstP d g i) b = (b || l.any fun g => firstP d g i) := by
        intro l
        induction l with
        | nil => simp
        | cons a l ih => intro b; rw [List.foldl_cons, ih, List.any_cons, Bool.or_assoc]
      rw [e]; rfl
    have kk := loop_fold (step := F_ref05_Weak_s1 n d l (liftS d)) (List.range d.Ribs.length) (fun i (z : List Int) => ((i : Int), z)) (fun z i => if weakP d l i = true then z ++ [(i : Int)] else z) (fun z => z) (fun i z => z.length ≤ i) (n := n) [] (by simp) (fun i x z hx hz => by
      obtain ⟨hi, hxi⟩ := List.getElem?_eq_some_iff.1 hx
      simp at hi hxi
      subst hxi
      refine ⟨?_, ?_⟩
      · simp only [F_ref05_Weak_s1, lt_nat, hi, decide_true, if_true, inner i hi, Option.bind_some, w64_nat (show i ≤ 4611686018427387904 by omega)]
        split
        · rw [lim_ok (by simp; omega)]; rfl
        · rfl
      · split
        · rw [List.length_append]; simp; omega
        · omega) (fun z hz => by simp [F_ref05_Weak_s1]) (by simp; omega)
    have k1 := kk.1
    rw [show ((0 : Nat) : Int) = 0 from rfl] at k1
    rw [k1]
    have e : ∀ (l' : List Nat) (out : List Int), l'.foldl (fun z i => if weakP d l i = true then z ++ [(i : Int)] else z) out = out ++ ((l'.filter (weakP d l)).map fun i : Nat => (i : Int)) := by
      intro l'
      induction l' with
      | nil => simp
      | cons a l' ih =>
        intro out
        rw [List.foldl_cons, ih, List.filter_cons]
        split <;> simp
    rw [e]
    rfl
  · simp [h]
theorem p_Copy05 {d : Canopy} (hs : Small d) : F_ref05_Copy n d = some d := by
  simp only [F_ref05_Copy, p_Copy01 hn hs.1, Option.bind_some, List.nil_append]
  rw [lim_ok (by have := hs.2.1; omega), lim_ok (by have := hs.2.2; omega)]
  rfl

/-! ### the small functions of the statements -/
theorem p_sameInts (a : List Int) (hl : a.length ≤ 10000) : F_law05_sameInts n a a = some true := by
  have := loop_all_l (step := F_law05_sameInts_s1 n a a) a (fun y => true) false (n := n) (by omega) (fun i y hy hi => by
    simp only [F_law05_sameInts_s1, geti_nat, hy, Option.bind_some, lt_nat, hi, decide_true, if_true, w64_nat (show i ≤ 4611686018427387904 by omega), cond_true]
    simp) (by simp [F_law05_sameInts_s1]) (by omega)
  simp only [F_law05_sameInts, this, Option.bind_some]
  have e : (a.all fun _ => true) = true := by simp
  rw [e]
  simp
theorem p_sameSpans (a : List Span) (hl : a.length ≤ 10000) : F_law05_sameSpans n a a = some true := by
  have := loop_all_l (step := F_law05_sameSpans_s1 n a a) a (fun y => true) false (n := n) (by omega) (fun i y hy hi => by
    simp only [F_law05_sameSpans_s1, geti_nat, hy, Option.bind_some, lt_nat, hi, decide_true, if_true, w64_nat (show i ≤ 4611686018427387904 by omega), cond_true]
    simp) (by simp [F_law05_sameSpans_s1]) (by omega)
  simp only [F_law05_sameSpans, this, Option.bind_some]
  have e : (a.all fun _ => true) = true := by simp
  rw [e]
  simp
theorem p_in (l : List Int) (hl : l.length ≤ 10000) (x : Int) : F_law05_in n l x = some (l.contains x) := by
  have kk := loop_all_l (step := F_law05_in_s1 n l x) l (fun y => !(y == x)) true (n := n) (by omega) (fun i y hy hi => by
    simp only [F_law05_in_s1, geti_nat, hy, Option.bind_some, lt_nat, hi, decide_true, if_true, w64_nat (show i ≤ 4611686018427387904 by omega)]
    cases y == x <;> rfl) (by simp [F_law05_in_s1]) (by omega)
  unfold F_law05_in
  rw [kk]
  have e : (l.all fun y => !(y == x)) = !l.contains x := by
    rw [Bool.eq_iff_iff]; simp [List.all_eq_true]
    exact ⟨fun h hm => h x hm rfl, fun h y hy e => h (e ▸ hy)⟩
  rw [e]
  cases l.contains x <;> rfl
theorem p_subset (a b : List Int) (ha : a.length ≤ 10000) (hb : b.length ≤ 10000) : F_law05_subset n a b = some (a.all fun x => b.contains x) := by
  have kk := loop_all_l (step := F_law05_subset_s1 n a b) a (fun y => b.contains y) false (n := n) (by omega) (fun i y hy hi => by
    simp only [F_law05_subset_s1, geti_nat, hy, Option.bind_some, lt_nat, hi, decide_true, if_true, p_in hn b hb, w64_nat (show i ≤ 4611686018427387904 by omega)]
    cases b.contains y <;> rfl) (by simp [F_law05_subset_s1]) (by omega)
  unfold F_law05_subset
  rw [kk]
  cases (a.all fun x => b.contains x) <;> rfl
omit hn in
theorem listS_len {N : Nat} (hN : N ≤ 10) (p : Nat → Bool) : (listS N p).length ≤ N := by
  unfold listS
  rw [List.length_map]
  exact Nat.le_trans (List.length_filter_le _ _) (by simp)
omit hn in
theorem listS_mem {N : Nat} {p : Nat → Bool} {j : Nat} : (listS N p).contains (j : Int) = (decide (j < N) && p j) := by
  rw [Bool.eq_iff_iff]
  simp only [List.contains_eq_mem, decide_eq_true_eq, Bool.and_eq_true, listS, List.mem_map, List.mem_filter, List.mem_range]
  constructor
  · rintro ⟨a, h, e⟩
    have : a = j := by omega
    subst this; exact h
  · intro h; exact ⟨j, h, rfl⟩
omit hn in
theorem listS_sub {N : Nat} {p q : Nat → Bool} (h : ∀ j, j < N → p j = true → q j = true) : ((listS N p).all fun x => (listS N q).contains x) = true := by
  refine List.all_eq_true.2 fun x hx => ?_
  obtain ⟨j, hj, rfl⟩ := List.mem_map.1 hx
  obtain ⟨h1, h2⟩ := List.mem_filter.1 hj
  have h1 := List.mem_range.1 h1
  rw [listS_mem, h j h1 h2]; simp [h1]
theorem p_Far (d : Canopy) : F_law05_Far n d = some true ∨ (F_law05_Far n d = some false ∧ Small d ∧ d.Frame.Sections.length ≤ 20 ∧ d.Ribs.length ≤ 40 ∧ d.Shares.length ≤ 40) := by
  have _hn := hn
  unfold F_law05_Far
  by_cases h1 : 20 < (d.Frame.Sections.length : Int)
  · simp [h1]
  · by_cases h2 : 40 < (d.Ribs.length : Int)
    · simp [h2]
    · by_cases h3 : 40 < (d.Shares.length : Int)
      · simp [h3]
      · right
        refine ⟨by simp [h1, h2, h3], ⟨by omega, by omega, by omega⟩, by omega, by omega, by omega⟩
theorem p_IsClassN {d : Canopy} (hs : Small d) {l : List Gust} (hl : l.length < n) (hl2 : l.length ≤ 9223372036854775807) : F_ref05_IsClass n d l = some (decide (l.length ≤ 20) && l.all (okGust d)) := by
  have _hn := hn
  unfold F_ref05_IsClass
  have kk := loop_all_any (step := F_ref05_IsClass_s1 n d l) l.length (fun i => match l[i]? with | some g => okGust d g | none => true) false (n := n) (fun i hi => ?_) ?_ hl
  · rw [kk, all_idx l (okGust d) _ (fun i x hx => by rw [hx])]
    cases l.all (okGust d)
    · simp
    · simp; omega
  · have hx : l[i]? = some l[i] := List.getElem?_eq_getElem hi
    have hw : w64 ((d.Ribs.length : Int) - 1) = (d.Ribs.length : Int) - 1 := w64_id (by have := hs.2.1; omega) (by have := hs.2.1; omega)
    simp only [F_ref05_IsClass_s1, lt_nat, hi, decide_true, if_true, geti_nat, hx, Option.bind_some, p_within05, F_ref05_IsRib, hw, or_br, w64_nat' hi hl2]
    have e : (!wi l[i].Force 0 99 || !wi l[i].At 0 ((d.Ribs.length : Int) - 1)) = !okGust d l[i] := by simp only [okGust, Bool.not_and]
    rw [e]
    cases okGust d l[i] <;> rfl
  · simp [F_ref05_IsClass_s1]
theorem p_ready (d : Canopy) {l : List Gust} (hl : l.length < n) (hl2 : l.length ≤ 9223372036854775807) : F_law05_ready n d l = some false ∨ (F_law05_ready n d l = some true ∧ askG d l = 0) := by
  rcases p_Far hn d with h | ⟨h, hs, _⟩
  · left; simp [F_law05_ready, h]
  · simp only [F_law05_ready, h, Option.bind_some, Bool.not_false, if_true, p_Check05 hn hs, p_IsClassN hn hs hl hl2]
    unfold askG
    cases okD d
    · left; rfl
    · simp only [if_true, beq_self_eq_true, Option.bind_some]
      cases (decide (l.length ≤ 20) && l.all (okGust d))
      · left; rfl
      · right; exact ⟨rfl, rfl⟩
end
def exD : Canopy := ⟨⟨[⟨⟨50, 52⟩, ⟨60, 60⟩, 0, ⟨1, 1⟩⟩, ⟨⟨40, 40⟩, ⟨45, 46⟩, 5, ⟨1, 2⟩⟩], 20, 100, ⟨1, 20⟩, 300, 351⟩, [⟨100, 110⟩, ⟨60, 60⟩, ⟨50, 55⟩, ⟨40, 40⟩, ⟨50, 50⟩, ⟨60, 60⟩], [10, 6, 3, 1, 3, 6]⟩
set_option maxRecDepth 1000000 in
theorem ex_lift : liftT exD = (⟨65, 76⟩, 0) := by kernel_rfl
set_option maxRecDepth 1000000 in
theorem ex_goes : goesT exD ⟨14, 0⟩ = ((goesT exD ⟨14, 0⟩).1, [0, 1, 2, 3, 4, 5], 0) := by kernel_rfl
set_option maxRecDepth 1000000 in
theorem ex_most : mostT exD 0 = (13, 0) := by kernel_rfl
set_option maxRecDepth 1000000 in
theorem ex_weak : weakT exD [⟨12, 0⟩, ⟨14, 0⟩] = ([0, 1, 5], 0) := by kernel_rfl
theorem works_any {n : Nat} (hn : 100000000 ≤ n) : F_law05_works n = some true := by
  have hs : Small exD := ⟨by decide, by decide, by decide⟩
  have e0 : F_law05_Example n = some exD := rfl
  simp only [F_law05_works, e0, Option.bind_some, p_Lift hn hs, p_Goes hn hs, p_Most hn hs, p_Weak hn hs (l := [⟨12, 0⟩, ⟨14, 0⟩]) (by decide), ex_lift, ex_most, ex_weak]
  rw [ex_goes]
  simp only [p_sameInts hn [0, 1, 2, 3, 4, 5] (by decide), p_sameInts hn [0, 1, 5] (by decide), Option.bind_some, beq_self_eq_true, Bool.and_self, if_true]
end Go.Proofs.Ytcpnnfdhafbemaa
