/-
  A part of the proof of WeWeak: the texts WePcc, WePcd, WePce, WePcf, WePta, WePra, EngN, WeOpn, WeGTopWeak.
-/
import Derived.Test.YteihdclpiekmaaaJWeWeak10
import Derived.OpenShut
section
namespace Go.Proofs.Yteihdclpiekmaaa
open Go Go.RowKit Go.Dec
set_option linter.unusedVariables false
def fmin {α : Type} (f : α → Int) (l : List α) (s : Int) : Int := l.foldl (fun s x => min s (f x)) s
def fmax {α : Type} (f : α → Int) (l : List α) (s : Int) : Int := l.foldl (fun s x => max s (f x)) s
theorem fmin_spec {α : Type} (f : α → Int) : ∀ (l : List α) (s : Int), (fmin f l s ≤ s ∧ ∀ x ∈ l, fmin f l s ≤ f x) ∧ (fmin f l s = s ∨ ∃ x ∈ l, fmin f l s = f x)
  | [], s => ⟨⟨Int.le_refl _, by simp⟩, .inl rfl⟩
  | a :: l, s => by
    obtain ⟨⟨h1, h2⟩, h3⟩ := fmin_spec f l (min s (f a))
    have e : fmin f (a :: l) s = fmin f l (min s (f a)) := rfl
    rw [e]
    refine ⟨⟨by omega, fun x hx => ?_⟩, ?_⟩
    · rcases List.mem_cons.1 hx with rfl | hx
      · omega
      · exact h2 x hx
    · rcases h3 with h3 | ⟨x, hx, h3⟩
      · rcases Int.le_total s (f a) with h | h
        · left; rw [h3]; omega
        · right; exact ⟨a, List.mem_cons_self .., by rw [h3]; omega⟩
      · exact .inr ⟨x, List.mem_cons_of_mem _ hx, h3⟩
theorem fmax_spec {α : Type} (f : α → Int) : ∀ (l : List α) (s : Int), (s ≤ fmax f l s ∧ ∀ x ∈ l, f x ≤ fmax f l s) ∧ (fmax f l s = s ∨ ∃ x ∈ l, fmax f l s = f x)
  | [], s => ⟨⟨Int.le_refl _, by simp⟩, .inl rfl⟩
  | a :: l, s => by
    obtain ⟨⟨h1, h2⟩, h3⟩ := fmax_spec f l (max s (f a))
    have e : fmax f (a :: l) s = fmax f l (max s (f a)) := rfl
    rw [e]
    refine ⟨⟨by omega, fun x hx => ?_⟩, ?_⟩
    · rcases List.mem_cons.1 hx with rfl | hx
      · omega
      · exact h2 x hx
    · rcases h3 with h3 | ⟨x, hx, h3⟩
      · rcases Int.le_total s (f a) with h | h
        · right; exact ⟨a, List.mem_cons_self .., by rw [h3]; omega⟩
        · left; rw [h3]; omega
      · exact .inr ⟨x, List.mem_cons_of_mem _ hx, h3⟩
theorem fmin_eq {α β : Type} {f : α → Int} {g : β → Int} {l : List α} {m : List β} (h1 : ∀ x ∈ l, ∃ y ∈ m, g y = f x) (h2 : ∀ y ∈ m, ∃ x ∈ l, f x = g y) (s : Int) : fmin f l s = fmin g m s := by
  obtain ⟨⟨a1, a2⟩, a3⟩ := fmin_spec f l s
  obtain ⟨⟨b1, b2⟩, b3⟩ := fmin_spec g m s
  have hle : fmin g m s ≤ fmin f l s := by
    rcases a3 with h | ⟨x, hx, h⟩
    · omega
    · obtain ⟨y, hy, e⟩ := h1 x hx
      have := b2 y hy; omega
  have hge : fmin f l s ≤ fmin g m s := by
    rcases b3 with h | ⟨y, hy, h⟩
    · omega
    · obtain ⟨x, hx, e⟩ := h2 y hy
      have := a2 x hx; omega
  omega
theorem fmax_eq {α β : Type} {f : α → Int} {g : β → Int} {l : List α} {m : List β} (h1 : ∀ x ∈ l, ∃ y ∈ m, g y = f x) (h2 : ∀ y ∈ m, ∃ x ∈ l, f x = g y) (s : Int) : fmax f l s = fmax g m s := by
  obtain ⟨⟨a1, a2⟩, a3⟩ := fmax_spec f l s
  obtain ⟨⟨b1, b2⟩, b3⟩ := fmax_spec g m s
  have hle : fmax f l s ≤ fmax g m s := by
    rcases a3 with h | ⟨x, hx, h⟩
    · omega
    · obtain ⟨y, hy, e⟩ := h1 x hx
      have := b2 y hy; omega
  have hge : fmax g m s ≤ fmax f l s := by
    rcases b3 with h | ⟨y, hy, h⟩
    · omega
    · obtain ⟨x, hx, e⟩ := h2 y hy
      have := a2 x hx; omega
  omega
/-- how many forces are at least a limit -/
def aboveS (c : List Int) (limit : Int) : Nat := c.countP fun f => decide (limit ≤ f)
def askN (a : Blow → Int → Bool) (bl : List Blow) (c : List Int) : Nat := (bl.zip c).countP fun p => a p.1 p.2
theorem addS_getD {ms : List Meter} {a : Blow → Int → Bool} {x : List Int} {b : Blow} {f : Int} {j : Nat} (hj : j < 6) : (addS ms a x b f).getD j 0 = x.getD j 0 + (if j = 5 then (if a b f = true then 1 else 0) else mtr ms f j) := by
  unfold addS; rw [range_getD, if_pos hj]
theorem readS_five {ms : List Meter} {a : Blow → Int → Bool} : ∀ (bl : List Blow) (c x : List Int), (readS ms a bl c x).getD 5 0 = x.getD 5 0 + (askN a bl c : Int)
  | [], c, x => by cases c <;> simp [readS, askN]
  | b :: bl, [], x => by simp [readS, askN]
  | b :: bl, f :: c, x => by
    have ih := readS_five (ms := ms) (a := a) bl c (addS ms a x b f)
    rw [readS, ih, addS_getD (by omega), if_pos rfl]
    simp only [askN, List.zip_cons_cons, List.countP_cons]
    cases a b f <;> simp <;> omega
theorem readS_j {ms : List Meter} {a : Blow → Int → Bool} {j : Nat} (hj : j < 5) {m : Meter} (hm : ms[j]? = some m) : ∀ (bl : List Blow) (c x : List Int), c.length = bl.length → (readS ms a bl c x).getD j 0 = x.getD j 0 + (aboveS c m.Limit : Int)
  | [], c, x, h => by cases c <;> simp_all [readS, aboveS]
  | b :: bl, [], x, h => by simp at h
  | b :: bl, f :: c, x, h => by
    have ih := readS_j (ms := ms) (a := a) hj hm bl c (addS ms a x b f) (by simpa using h)
    rw [readS, ih, addS_getD (by omega), if_neg (by omega), mtr_some hm]
    simp only [aboveS, List.countP_cons]
    by_cases hl : m.Limit ≤ f
    · simp [hl]; omega
    · simp [hl]
def rightC (m : Meter) (c : List Int) : Bool := (aboveS c m.Limit : Int) == m.Count
def wrongC (ms : List Meter) (c : List Int) : Nat := ms.countP fun m => !rightC m c
def truthC (r : Run) (c : List Int) : Bool := decide ((wrongC r.Meters c : Int) ≤ r.Wrong)
def truthsC (r : Run) : List (List Int) := (casesS r.Blows).filter (truthC r)
theorem zero_getD (j : Nat) : zeroX.getD j 0 = 0 := by
  match j with
  | 0 | 1 | 2 | 3 | 4 | 5 => rfl
  | j + 6 => simp [zeroX]
theorem countP_range {α : Type} (l : List α) (q : Nat → Bool) (p : α → Bool) (h : ∀ i x, l[i]? = some x → q i = p x) : (List.range l.length).countP q = l.countP p := by
  have : (List.range l.length).countP q = (List.range l.length).countP fun i => match l[i]? with | some x => p x | none => false := by
    apply List.countP_congr
    intro i hi
    have hi := List.mem_range.1 hi
    rw [h i _ (List.getElem?_eq_getElem hi), List.getElem?_eq_getElem hi]
  rw [this]
  clear this h
  induction l with
  | nil => rfl
  | cons a l ih =>
    rw [List.length_cons, List.range_succ_eq_map, List.countP_cons, List.countP_map, List.countP_cons, ← ih]
    simp [Function.comp_def]
theorem readS_at {r : Run} (hm : r.Meters.length ≤ 5) {a : Blow → Int → Bool} {c : List Int} (hc : c ∈ casesS r.Blows) {i : Nat} {m : Meter} (hi : r.Meters[i]? = some m) : (readS r.Meters a r.Blows c zeroX).getD i 0 = (aboveS c m.Limit : Int) := by
  have := (List.getElem?_eq_some_iff.1 hi).1
  rw [readS_j (by omega) hi r.Blows c zeroX (casesS_len hc), zero_getD, Int.zero_add]
theorem wrongX_read {r : Run} (hm : r.Meters.length ≤ 5) {a : Blow → Int → Bool} {c : List Int} (hc : c ∈ casesS r.Blows) : wrongX r.Meters (readS r.Meters a r.Blows c zeroX) = wrongC r.Meters c := by
  unfold wrongX wrongC
  refine countP_range _ _ _ fun i m hi => ?_
  rw [readS_at hm hc hi, hi]
  rfl
theorem rds_eq (r : Run) (a : Blow → Int → Bool) : rds r a = (casesS r.Blows).map fun c => readS r.Meters a r.Blows c zeroX := by
  unfold rds; rw [rdsF_cases]; simp
theorem trs_eq {r : Run} (hm : r.Meters.length ≤ 5) (a : Blow → Int → Bool) : trs r a = (truthsC r).map fun c => readS r.Meters a r.Blows c zeroX := by
  unfold trs truthsC
  rw [rds_eq, List.filter_map]
  congr 1
  apply List.filter_congr
  intro c hc
  simp only [Function.comp, goodX, truthC, wrongX_read hm hc]
/-- the error of what is asked -/
def errR (r : Run) (is : Bool) : Int := if checkR r ≠ 0 then checkR r else if is = false then 1 else if truthsC r = [] then 3 else 0
theorem openE_eq (r : Run) (is : Bool) (a : Blow → Int → Bool) : openE r is a = errR r is := by
  unfold openE errR
  by_cases h : checkR r = 0
  · have hr := checkR_ok.1 h
    have : (trs r a = []) = (truthsC r = []) := by rw [trs_eq hr.nm]; simp
    simp only [this]
  · rw [if_pos h, if_pos h]
theorem errR_ok {r : Run} {is : Bool} (h : errR r is = 0) : ROk r ∧ is = true ∧ truthsC r ≠ [] := by
  unfold errR at h
  split at h
  · rename_i h1; exact absurd h h1
  · rename_i h1
    split at h
    · cases h
    · rename_i h2
      split at h
      · cases h
      · rename_i h3
        exact ⟨checkR_ok.1 (by simpa using h1), by simpa using h2, h3⟩
theorem errR_true {r : Run} (hr : ROk r) : errR r true = if truthsC r = [] then 3 else 0 := by
  unfold errR
  rw [if_neg (by simpa using checkR_ok.2 hr)]
  simp
theorem errR_three {r : Run} (hr : ROk r) : errR r true = 0 ∨ errR r true = 3 := by
  rw [errR_true hr]; split <;> simp
theorem cases_len {r : Run} (hr : ROk r) : (casesS r.Blows).length ≤ 100000000 := by
  have h := rds_len (d := r.Canopy) (ms := r.Meters) (a := fun _ _ => false) r.Blows [zeroX] hr.b
  have e : (rds r fun _ _ => false).length = (casesS r.Blows).length := by rw [rds_eq]; simp
  have hp : (10 : Nat) ^ r.Blows.length ≤ 10 ^ 8 := Nat.pow_le_pow_right (by omega) hr.nb
  unfold rds at e
  simp only [List.length_cons, List.length_nil] at h
  omega
theorem truths_len {r : Run} (hr : ROk r) : (truthsC r).length ≤ 100000000 := Nat.le_trans (List.length_filter_le _ _) (cases_len hr)
def manyC (r : Run) : Int × Int := if errR r true = 0 then ((truthsC r).length, 0) else (0, errR r true)
def boundsT (r : Run) (is : Bool) (a : Blow → Int → Bool) : Span × Int := if errR r is = 0 then (⟨fmin (fun c => (askN a r.Blows c : Int)) (truthsC r) r.Blows.length, fmax (fun c => (askN a r.Blows c : Int)) (truthsC r) 0⟩, 0) else (⟨0, 0⟩, errR r is)
def fellA (d : Canopy) (surely : Bool) : Blow → Int → Bool := fun b f => (standsI d [⟨f, b.At⟩] == 2) || (!surely && (standsI d [⟨f, b.At⟩] == 3))
def harmT (r : Run) : Span × Int := if errR r true = 0 then (⟨fmin (fun c => (askN (fellA r.Canopy true) r.Blows c : Int)) (truthsC r) r.Blows.length, fmax (fun c => (askN (fellA r.Canopy false) r.Blows c : Int)) (truthsC r) 0⟩, 0) else (⟨0, 0⟩, errR r true)
def stoodT (r : Run) : Int × Int := if errR r true = 0 then (if (harmT r).1.High = 0 then 1 else if 0 < (harmT r).1.Low then 2 else 3, 0) else (0, errR r true)
def blowAt (r : Run) (i : Int) : Blow := (r.Blows[i.toNat]?).getD ⟨0, ⟨0, 0⟩⟩
def fixedS (r : Run) (i : Int) (f : Int) : Run := ⟨r.Canopy, setx r.Blows i ⟨(blowAt r i).At, ⟨f, f⟩⟩, r.Meters, r.Wrong⟩
def forcesL (r : Run) (i : Int) : List Int := (span (blowAt r i).Force.Low (blowAt r i).Force.High).filter fun f => errR (fixedS r i f) true == 0
def forcesT (r : Run) (i : Int) : List Int × Int := if errR r (wi i 0 ((r.Blows.length : Int) - 1)) = 0 then (forcesL r i, 0) else ([], errR r (wi i 0 ((r.Blows.length : Int) - 1)))
section
variable {n : Nat} (hn : 100000000 ≤ n)
include hn
theorem p_openN {r : Run} (hs : SmallR r) (is : Bool) : F_counts_open n r is (fun a0_ a1_ => F_counts_none n a0_ a1_) = some (if errR r is = 0 then (some ⟨r, fun a0_ a1_ => F_counts_none n a0_ a1_⟩, tally (trs r fun _ _ => false), 0) else (none, [], errR r is)) := by
  rw [p_open hn hs is (asked := fun a0_ a1_ => F_counts_none n a0_ a1_) (a := fun _ _ => false) (fun _ _ _ _ _ _ => rfl), openE_eq]
omit hn in
theorem trs_ne {r : Run} {is : Bool} (h : errR r is = 0) (a : Blow → Int → Bool) : neM (tally (trs r a)) = some () := by
  obtain ⟨hr, _, h3⟩ := errR_ok h
  have h4 : trs r a ≠ [] := by rw [trs_eq hr.nm]; simpa using h3
  have h5 : tally (trs r a) ≠ [] := fun e => h4 ((tally_ok _).len0.1 e)
  unfold neM
  rw [if_neg (by simpa using h5)]
omit hn in
theorem many_sum (T : Mp) : ∀ (l : Mp) (s : Int), (∀ p ∈ l, 0 < p.2) → 0 ≤ s → s + (l.map (·.2)).sum ≤ 1000000000 → foldP (F_counts_Many_s1 n) s l = some (s + (l.map (·.2)).sum)
  | [], s, _, _, _ => by simp [foldP]
  | p :: l, s, h, h0, hb => by
    have hp := h p (List.mem_cons_self ..)
    have hl := sum_nonneg (l := l) fun z hz => h z (List.mem_cons_of_mem _ hz)
    simp only [List.map_cons, List.sum_cons] at hb
    obtain ⟨x, v⟩ := p
    simp only at hp hb
    rw [foldP, F_counts_Many_s1, w64_id (by omega) (by omega)]
    simp only [Option.bind_some]
    rw [many_sum T l (s + v) (fun z hz => h z (List.mem_cons_of_mem _ hz)) (by omega) (by omega)]
    simp only [List.map_cons, List.sum_cons]
    congr 1; omega
theorem p_Many {r : Run} (hs : SmallR r) : F_counts_Many n r = some (manyC r) := by
  simp only [F_counts_Many, p_openN hn hs, Option.bind_some, manyC]
  by_cases h : errR r true = 0
  · rw [if_pos h, if_pos h]
    obtain ⟨hr, _, _⟩ := errR_ok h
    have hT := tally_ok (trs r fun _ _ => false)
    have hlen : (trs r fun _ _ => false).length = (truthsC r).length := by rw [trs_eq hr.nm]; simp
    have hP : permO (F_counts_Many_s1 n) 0 (tally (trs r fun _ _ => false)) = some ((truthsC r).length : Int) := permO_of fun l hl => by
      rw [many_sum [] l 0 (fun p hp => hT.pos p (hl.mem_iff.1 hp)) (Int.le_refl _) (by rw [sum_perm hl, hT.total, hlen]; have := truths_len hr; omega), sum_perm hl, hT.total, hlen, Int.zero_add]
    simp only [trs_ne h, Option.bind_some, hP]
    rfl
  · rw [if_neg h, if_neg h]
    have e : (errR r true != 0) = true := by simpa using h
    simp only [e, if_true]
theorem p_bounds {r : Run} (hs : SmallR r) (is : Bool) {asked : Blow → Int → Option Bool} {a : Blow → Int → Bool} (ha : ROk r → ∀ b ∈ r.Blows, ∀ f, b.Force.Low ≤ f → f ≤ b.Force.High → asked b f = some (a b f)) : F_counts_bounds n r is asked = some (boundsT r is a) := by
  simp only [F_counts_bounds, p_open hn hs is ha, openE_eq, Option.bind_some, boundsT]
  by_cases h : errR r is = 0
  · rw [if_pos h, if_pos h]
    obtain ⟨hr, _, _⟩ := errR_ok h
    have hT := tally_ok (trs r a)
    have hx : ∀ p ∈ tally (trs r a), ∃ c ∈ truthsC r, p.1 = readS r.Meters a r.Blows c zeroX := fun p hp => by
      have h1 := hT.key.1 ⟨p.2, hp⟩
      rw [trs_eq hr.nm] at h1
      obtain ⟨c, hc, e⟩ := List.mem_map.1 h1
      exact ⟨c, hc, e.symm⟩
    have hx2 : ∀ c ∈ truthsC r, ∃ v, (readS r.Meters a r.Blows c zeroX, v) ∈ tally (trs r a) := fun c hc => hT.key.2 (by rw [trs_eq hr.nm]; exact List.mem_map.2 ⟨c, hc, rfl⟩)
    have h6 : ∀ p ∈ tally (trs r a), p.1.length = 6 := fun p hp => (xok_of hr.nb p.1 (List.mem_filter.1 (hT.key.1 ⟨p.2, hp⟩)).1).1
    have hP := permO_comm (step := F_counts_bounds_s1 n) (fun s p => (min s.1 (p.1.getD 5 0), max s.2 (p.1.getD 5 0))) (fun s x y => by simp only; congr 1 <;> omega) (m := tally (trs r a)) ((r.Blows.length : Int), 0) (fun s p hp => by
      obtain ⟨x, v⟩ := p
      obtain ⟨s1, s2⟩ := s
      have hl := h6 _ hp
      simp only at hl
      have e : geti x 5 = some (x.getD 5 0) := by
        have := geti_nat x 5
        rw [show ((5 : Nat) : Int) = 5 from rfl] at this
        rw [this, List.getD_eq_getElem?_getD, List.getElem?_eq_getElem (by omega)]
        rfl
      simp only [F_counts_bounds_s1, e, Option.bind_some])
    rw [foldl_pair (fun s (p : List Int × Int) => min s (p.1.getD 5 0)) (fun s (p : List Int × Int) => max s (p.1.getD 5 0))] at hP
    have f1 : (tally (trs r a)).foldl (fun s (p : List Int × Int) => min s (p.1.getD 5 0)) (r.Blows.length : Int) = fmin (fun c => (askN a r.Blows c : Int)) (truthsC r) r.Blows.length := by
      refine fmin_eq (f := fun p : List Int × Int => p.1.getD 5 0) (fun p hp => ?_) (fun c hc => ?_) _
      · obtain ⟨c, hc, e⟩ := hx p hp
        exact ⟨c, hc, by rw [e, readS_five, zero_getD, Int.zero_add]⟩
      · obtain ⟨v, hv⟩ := hx2 c hc
        exact ⟨_, hv, by simp only; rw [readS_five, zero_getD, Int.zero_add]⟩
    have f2 : (tally (trs r a)).foldl (fun s (p : List Int × Int) => max s (p.1.getD 5 0)) 0 = fmax (fun c => (askN a r.Blows c : Int)) (truthsC r) 0 := by
      refine fmax_eq (f := fun p : List Int × Int => p.1.getD 5 0) (fun p hp => ?_) (fun c hc => ?_) _
      · obtain ⟨c, hc, e⟩ := hx p hp
        exact ⟨c, hc, by rw [e, readS_five, zero_getD, Int.zero_add]⟩
      · obtain ⟨v, hv⟩ := hx2 c hc
        exact ⟨_, hv, by simp only; rw [readS_five, zero_getD, Int.zero_add]⟩
    rw [f1, f2] at hP
    simp only [bne_self_eq_false, Bool.false_eq_true, if_false, trs_ne h, Option.bind_some, hP]
  · rw [if_neg h, if_neg h]
    have e : (errR r is != 0) = true := by simpa using h
    simp only [e, if_true]
omit hn in
theorem stands_at {d : Canopy} (hd : DOk d) {b : Blow} (hb : BlOk d b) {f : Int} (h1 : b.Force.Low ≤ f) (h2 : f ≤ b.Force.High) : GOk d.Ribs.length ⟨f, b.At⟩ := by
  have := hb.lo; have := hb.hi
  have h3 := hb.at_
  exact ⟨by simp only; omega, by simp only; omega⟩
omit hn in
theorem standsT_at {d : Canopy} (hd : DOk d) {g : Gust} (hg : GOk d.Ribs.length g) : standsT d [g] = (standsI d [g], 0) := by
  unfold standsT
  rw [if_pos (askG_ok.2 ⟨hd, by simp, fun x hx => by rw [List.mem_singleton.1 hx]; exact hg⟩)]
theorem p_asked {r : Run} (hr : ROk r) (surely : Bool) : ∀ b ∈ r.Blows, ∀ f, b.Force.Low ≤ f → f ≤ b.Force.High → F_asked n r.Canopy surely b f = some (fellA r.Canopy surely b f) := fun b hb f h1 h2 => by
  have hbo := hr.b b hb
  have := hbo.lo; have := hbo.hi; have h3 := hbo.at_; have := hr.d.r
  have hk : kok 2 [f, b.At] = some () := kok_ok ⟨rfl, fun x hx => by
    simp only [List.mem_cons, List.not_mem_nil, or_false] at hx
    rcases hx with rfl | rfl <;> omega⟩
  simp only [F_asked, hk, Option.bind_some, p_Stands hn hr.d.small (l := [Gust.mk f b.At]) (by simp), standsT_at hr.d (stands_at hr.d hbo h1 h2), fellA]
theorem p_Harm {r : Run} (hs : SmallR r) : F_counts_Harm n r = some (harmT r) := by
  have b1 := p_bounds hn hs true (asked := F_asked n r.Canopy true) (a := fellA r.Canopy true) (fun hr => p_asked hn hr true)
  have b2 := p_bounds hn hs true (asked := F_asked n r.Canopy false) (a := fellA r.Canopy false) (fun hr => p_asked hn hr false)
  simp only [F_counts_Harm, b1, b2, Option.bind_some, harmT, boundsT]
  by_cases h : errR r true = 0
  · simp only [h, if_true, bne_self_eq_false, Bool.false_eq_true, if_false]
  · have e : (errR r true != 0) = true := by simpa using h
    simp only [h, if_false, e, if_true]
theorem p_Stood {r : Run} (hs : SmallR r) : F_counts_Stood n r = some (stoodT r) := by
  simp only [F_counts_Stood, p_Harm hn hs, Option.bind_some, stoodT]
  by_cases h : errR r true = 0
  · have e : (harmT r).2 = 0 := by unfold harmT; rw [if_pos h]
    rw [if_pos h, e]
    simp only [bne_self_eq_false, Bool.false_eq_true, if_false]
    by_cases h1 : (harmT r).1.High = 0
    · simp [h1]
    · have : ((harmT r).1.High == 0) = false := by simpa using h1
      rw [if_neg h1, this]
      by_cases h2 : 0 < (harmT r).1.Low <;> simp [h2]
  · have e : (harmT r).2 = errR r true := by unfold harmT; rw [if_neg h]
    have e2 : (errR r true != 0) = true := by simpa using h
    rw [if_neg h, e, e2]; rfl
end
end Go.Proofs.Yteihdclpiekmaaa
end
section
namespace Go.Proofs.Yteihdclpiekmaaa
open Go Go.RowKit Go.Dec
set_option linter.unusedVariables false
theorem mem_cases : ∀ {bl : List Blow} {c : List Int}, c ∈ casesS bl ↔ c.length = bl.length ∧ ∀ (i : Nat) (b : Blow) (x : Int), bl[i]? = some b → c[i]? = some x → b.Force.Low ≤ x ∧ x ≤ b.Force.High
  | [], c => by
    constructor
    · intro h; simp [casesS] at h; subst h; simp
    · rintro ⟨h, _⟩
      have : c = [] := List.eq_nil_of_length_eq_zero h
      subst this; simp [casesS]
  | b :: bl, c => by
    simp only [casesS, List.mem_flatMap, List.mem_map]
    constructor
    · rintro ⟨f, hf, c', hc, rfl⟩
      obtain ⟨h1, h2⟩ := mem_cases.1 hc
      refine ⟨by simp [h1], fun i b' x hb hx => ?_⟩
      cases i with
      | zero =>
        simp only [List.getElem?_cons_zero, Option.some.injEq] at hb hx
        subst hb; subst hx
        exact span_mem'.1 hf
      | succ i =>
        simp only [List.getElem?_cons_succ] at hb hx
        exact h2 i b' x hb hx
    · rintro ⟨h1, h2⟩
      cases c with
      | nil => simp at h1
      | cons f c =>
        refine ⟨f, span_mem'.2 (h2 0 b f rfl rfl), c, mem_cases.2 ⟨by simpa using h1, fun i b' x hb hx => h2 (i + 1) b' x (by simpa using hb) (by simpa using hx)⟩, rfl⟩
theorem blowAt_of {r : Run} {i : Int} {b : Blow} (h : r.Blows[i.toNat]? = some b) : blowAt r i = b := by unfold blowAt; rw [h]; rfl
theorem fixed_ok {r : Run} (hr : ROk r) {i : Int} (h0 : 0 ≤ i) (h1 : i < r.Blows.length) {f : Int} (hf1 : (blowAt r i).Force.Low ≤ f) (hf2 : f ≤ (blowAt r i).Force.High) : ROk (fixedS r i f) := by
  have hi : i.toNat < r.Blows.length := by omega
  have e : r.Blows[i.toNat]? = some r.Blows[i.toNat] := List.getElem?_eq_getElem hi
  have hb := hr.b _ (List.getElem_mem hi)
  rw [blowAt_of e] at hf1 hf2
  refine ⟨hr.d, by simpa [fixedS, setx] using hr.nb, hr.nm, fun b h => ?_, hr.m, hr.w⟩
  simp only [fixedS, setx] at h
  rcases List.mem_or_eq_of_mem_set h with h | rfl
  · exact hr.b b h
  · have := hb.lo; have := hb.hi
    exact ⟨by simp only [blowAt_of e]; exact hb.at_, by simp only; omega, by simp only; omega, by simp only; omega, by simp only; omega⟩
theorem fixed_cases {r : Run} {i : Int} (h0 : 0 ≤ i) (h1 : i < r.Blows.length) {f : Int} (hf1 : (blowAt r i).Force.Low ≤ f) (hf2 : f ≤ (blowAt r i).Force.High) {c : List Int} : c ∈ casesS (fixedS r i f).Blows ↔ c ∈ casesS r.Blows ∧ c[i.toNat]? = some f := by
  have hi : i.toNat < r.Blows.length := by omega
  have e : r.Blows[i.toNat]? = some r.Blows[i.toNat] := List.getElem?_eq_getElem hi
  rw [mem_cases, mem_cases]
  simp only [fixedS, setx, List.length_set]
  rw [blowAt_of e] at hf1 hf2 ⊢
  constructor
  · rintro ⟨hl, h⟩
    have hf : c[i.toNat]? = some f := by
      have hc : c[i.toNat]? = some (c[i.toNat]'(by omega)) := List.getElem?_eq_getElem (by omega)
      have := h i.toNat ⟨r.Blows[i.toNat].At, ⟨f, f⟩⟩ _ (by rw [List.getElem?_set, if_pos rfl, if_pos hi]) hc
      simp only at this
      rw [hc]; congr 1; omega
    refine ⟨⟨hl, fun j b x hb hx => ?_⟩, hf⟩
    by_cases hj : i.toNat = j
    · subst hj
      rw [e] at hb; cases hb
      rw [hf] at hx; cases hx
      exact ⟨hf1, hf2⟩
    · exact h j b x (by rw [List.getElem?_set_ne hj]; exact hb) hx
  · rintro ⟨⟨hl, h⟩, hf⟩
    refine ⟨hl, fun j b x hb hx => ?_⟩
    by_cases hj : i.toNat = j
    · subst hj
      rw [List.getElem?_set, if_pos rfl, if_pos hi] at hb
      cases hb
      rw [hf] at hx; cases hx
      exact ⟨Int.le_refl _, Int.le_refl _⟩
    · rw [List.getElem?_set_ne hj] at hb
      exact h j b x hb hx
theorem fixed_truths {r : Run} {i : Int} (h0 : 0 ≤ i) (h1 : i < r.Blows.length) {f : Int} (hf1 : (blowAt r i).Force.Low ≤ f) (hf2 : f ≤ (blowAt r i).Force.High) {c : List Int} : c ∈ truthsC (fixedS r i f) ↔ c ∈ truthsC r ∧ c[i.toNat]? = some f := by
  unfold truthsC
  rw [List.mem_filter, List.mem_filter, fixed_cases h0 h1 hf1 hf2]
  constructor
  · rintro ⟨⟨a, b⟩, c⟩; exact ⟨⟨a, c⟩, b⟩
  · rintro ⟨⟨a, c⟩, b⟩; exact ⟨⟨a, b⟩, c⟩
theorem fixed_err {r : Run} (hr : ROk r) {i : Int} (h0 : 0 ≤ i) (h1 : i < r.Blows.length) {f : Int} (hf1 : (blowAt r i).Force.Low ≤ f) (hf2 : f ≤ (blowAt r i).Force.High) : errR (fixedS r i f) true = 0 ↔ ∃ c ∈ truthsC r, c[i.toNat]? = some f := by
  rw [errR_true (fixed_ok hr h0 h1 hf1 hf2)]
  constructor
  · intro h
    split at h
    · cases h
    · rename_i hne
      obtain ⟨c, hc⟩ := List.exists_mem_of_ne_nil _ hne
      exact ⟨c, (fixed_truths h0 h1 hf1 hf2).1 hc⟩
  · rintro ⟨c, hc⟩
    rw [if_neg (fun e => by have := (fixed_truths h0 h1 hf1 hf2).2 hc; rw [e] at this; cases this)]
theorem truth_case {r : Run} {c : List Int} (h : c ∈ truthsC r) : c ∈ casesS r.Blows := (List.mem_filter.1 h).1
/-- the forces that a blow can have -/
theorem forces_mem {r : Run} (hr : ROk r) {i : Int} (h0 : 0 ≤ i) (h1 : i < r.Blows.length) {f : Int} : f ∈ forcesL r i ↔ ∃ c ∈ truthsC r, c[i.toNat]? = some f := by
  unfold forcesL
  rw [List.mem_filter, span_mem']
  constructor
  · rintro ⟨⟨a, b⟩, h⟩
    exact (fixed_err hr h0 h1 a b).1 (by simpa using h)
  · rintro ⟨c, hc, hf⟩
    have hi : i.toNat < r.Blows.length := by omega
    have e : r.Blows[i.toNat]? = some r.Blows[i.toNat] := List.getElem?_eq_getElem hi
    have := (mem_cases.1 (truth_case hc)).2 i.toNat _ f e hf
    rw [blowAt_of e]
    refine ⟨this, ?_⟩
    have h2 := (fixed_err hr h0 h1 (f := f) (by rw [blowAt_of e]; exact this.1) (by rw [blowAt_of e]; exact this.2)).2 ⟨c, hc, hf⟩
    simpa using h2
theorem span_sorted (a b : Int) : (span a b).Pairwise (· < ·) := by
  unfold span
  rw [List.pairwise_map]
  have : (List.range (b + 1 - a).toNat).Pairwise (· < ·) := List.pairwise_lt_range
  exact this.imp fun h => by omega
theorem forces_sorted (r : Run) (i : Int) : (forcesL r i).Pairwise (· < ·) := (span_sorted _ _).filter _
theorem forces_len {r : Run} (hr : ROk r) {i : Int} (h0 : 0 ≤ i) (h1 : i < r.Blows.length) : (forcesL r i).length ≤ 10 := by
  have hi : i.toNat < r.Blows.length := by omega
  have e : r.Blows[i.toNat]? = some r.Blows[i.toNat] := List.getElem?_eq_getElem hi
  have := (hr.b _ (List.getElem_mem hi)).gap
  refine Nat.le_trans (List.length_filter_le _ _) ?_
  rw [span_len, blowAt_of e]; omega
section
variable {n : Nat} (hn : 100000000 ≤ n)
include hn
theorem p_fixed {r : Run} (hs : SmallR r) {i : Int} (h0 : 0 ≤ i) (h1 : i < r.Blows.length) (f : Int) : F_counts_fixed n r i f = some (fixedS r i f) := by
  have _hn := hn
  have hi : i.toNat < r.Blows.length := by omega
  have e : r.Blows[i.toNat]? = some r.Blows[i.toNat] := List.getElem?_eq_getElem hi
  have hg : geti r.Blows i = some r.Blows[i.toNat] := by unfold geti; rw [if_pos h0, e]
  have hl : F_slices_Clone___api_Blow_api_Blow_ n r.Blows = some r.Blows := lim_ok (by have := hs.2.1; omega)
  simp only [F_counts_fixed, hl, Option.bind_some, hg, fixedS, blowAt_of e]
theorem p_Forces {r : Run} (hs : SmallR r) (i : Int) : F_counts_Forces n r i = some (forcesT r i) := by
  simp only [F_counts_Forces, p_cwithin, Option.bind_some]
  rw [w64_id (by have := hs.2.1; omega) (by have := hs.2.1; omega)]
  simp only [p_openN hn hs, Option.bind_some, forcesT]
  by_cases h : errR r (wi i 0 ((r.Blows.length : Int) - 1)) = 0
  · rw [if_pos h, if_pos h]
    obtain ⟨hr, hw, hne⟩ := errR_ok h
    have hi := wi_t.1 hw
    have h1 : i < r.Blows.length := by omega
    have hi' : i.toNat < r.Blows.length := by omega
    have e : r.Blows[i.toNat]? = some r.Blows[i.toNat] := List.getElem?_eq_getElem hi'
    have hg : geti r.Blows i = some (blowAt r i) := by unfold geti; rw [if_pos hi.1, e, blowAt_of e]
    have hb := hr.b _ (List.getElem_mem hi')
    rw [← blowAt_of e] at hb
    have hlo := hb.lo; have hhi := hb.hi; have hgap := hb.gap
    have hl := loop_span_fold (step := F_counts_Forces_s1 n r i) (fun f (out : List Int) => (f, out)) (fun out f => if (errR (fixedS r i f) true == 0) = true then out ++ [f] else out) (fun out => out) (fun f out => (out.length : Int) ≤ f - (blowAt r i).Force.Low) (hi := (blowAt r i).Force.High) _ (blowAt r i).Force.Low [] n rfl (by simp) (fun f out h2 h3 hI => by
      have hsF : SmallR (fixedS r i f) := ⟨hs.1, by simpa [fixedS, setx] using hs.2.1, hs.2.2⟩
      simp only [F_counts_Forces_s1, hg, Option.bind_some, h3, decide_true, if_true, p_fixed hn hs hi.1 h1, p_openN hn hsF]
      rw [w64_id (by omega) (by omega)]
      by_cases he : errR (fixedS r i f) true = 0
      · have hlim : lim (out ++ [f]) = some (out ++ [f]) := lim_ok (by simp; omega)
        simp only [he, if_true, beq_self_eq_true, hlim, Option.bind_some]
        refine ⟨by first | rfl | trivial, ?_⟩
        rw [List.length_append]; simp; omega
      · have e2 : (errR (fixedS r i f) true == 0) = false := by simpa using he
        simp only [he, if_false, e2, Bool.false_eq_true, Option.bind_some]
        exact ⟨by first | rfl | trivial, by omega⟩) (fun f out h2 h3 hI => by
      simp only [F_counts_Forces_s1, hg, Option.bind_some]
      rw [show decide (f ≤ (blowAt r i).Force.High) = false from decide_eq_false (by omega)]
      rfl) (by omega)
    simp only [bne_self_eq_false, Bool.false_eq_true, if_false, hg, Option.bind_some, hl.1, foldl_filter_append, List.nil_append]
    rfl
  · rw [if_neg h, if_neg h]
    have e : (errR r (wi i 0 ((r.Blows.length : Int) - 1)) != 0) = true := by simpa using h
    simp only [e, if_true]
theorem p_Copy13 {r : Run} (hs : SmallR r) : F_ref13_Copy n r = some r := by
  simp only [F_ref13_Copy, p_Copy05 hn hs.1, Option.bind_some, List.nil_append]
  rw [lim_ok (by have := hs.2.1; omega), lim_ok (by have := hs.2.2; omega)]
  rfl
theorem p_Far13 (r : Run) : F_law13_Far n r = some true ∨ (F_law13_Far n r = some false ∧ SmallR r ∧ r.Blows.length ≤ 40 ∧ r.Meters.length ≤ 40) := by
  unfold F_law13_Far
  rcases p_Far hn r.Canopy with h | ⟨h, hs, h1, h2, h3⟩
  · left; rw [h]; rfl
  · rw [h]
    simp only [Option.bind_some, Bool.false_or]
    by_cases h4 : 40 < (r.Blows.length : Int)
    · left; simp [h4]
    · by_cases h5 : 40 < (r.Meters.length : Int)
      · left; simp [h5]
      · have hsr : SmallR r := ⟨hs, by omega, by omega⟩
        have e4 : decide (40 < (r.Blows.length : Int)) = false := decide_eq_false h4
        have e5 : decide (40 < (r.Meters.length : Int)) = false := decide_eq_false h5
        simp only [e4, e5, Bool.false_or, Bool.false_eq_true, if_false, p_Check13 hn hsr, Option.bind_some]
        by_cases h6 : checkR r = 0
        · have hr := checkR_ok.1 h6
          have e6 : (checkR r != 0) = false := by simp [h6]
          rw [e6]
          simp only [Bool.false_eq_true, if_false]
          have key : ∀ (k i : Nat) (m : Int) (fuel : Nat), i + k = r.Blows.length → 1 ≤ m → m ≤ 600 → k < fuel → ∃ v, loopO fuel (F_law13_Far_s1 n r) (m, (i : Int)) = some v ∧ (v = .inl true ∨ v = .inr ()) := by
            intro k
            induction k with
            | zero =>
              intro i m fuel hi _ _ hf
              refine ⟨.inr (), loop_done ?_ hf, .inr rfl⟩
              have : i = r.Blows.length := by omega
              subst this
              simp [F_law13_Far_s1]
            | succ k ih =>
              intro i m fuel hi h1 h2 hf
              obtain ⟨fuel, rfl⟩ : ∃ k, fuel = k + 1 := ⟨fuel - 1, by omega⟩
              have hlt : i < r.Blows.length := by omega
              have e : r.Blows[i]? = some r.Blows[i] := List.getElem?_eq_getElem hlt
              have hb := hr.b _ (List.getElem_mem hlt)
              have hg := hb.gap; have hle := hb.le; have := hb.lo; have := hb.hi
              have hm1 := mul_in (x := m) (y := r.Blows[i].Force.High - r.Blows[i].Force.Low + 1) (A := 600) (C := 10) (by omega) h2 (by omega) (by omega)
              have hm2 : 1 ≤ m * (r.Blows[i].Force.High - r.Blows[i].Force.Low + 1) := by
                have := Int.mul_le_mul h1 (show 1 ≤ r.Blows[i].Force.High - r.Blows[i].Force.Low + 1 by omega) (by omega) (by omega)
                omega
              rw [loopO_succ]
              simp only [F_law13_Far_s1, lt_nat, hlt, decide_true, if_true, geti_nat, e, Option.bind_some]
              rw [w64_id (n := r.Blows[i].Force.High - r.Blows[i].Force.Low) (by omega) (by omega), w64_id (n := r.Blows[i].Force.High - r.Blows[i].Force.Low + 1) (by omega) (by omega), w64_id (by omega) (by omega), w64_nat (show i ≤ 4611686018427387904 by have := hr.nb; omega)]
              by_cases hbig : 600 < m * (r.Blows[i].Force.High - r.Blows[i].Force.Low + 1)
              · rw [if_pos (by simpa using hbig)]
                exact ⟨_, rfl, .inl rfl⟩
              · rw [if_neg (by simpa using hbig)]
                exact ih (i + 1) _ fuel (by omega) hm2 (by omega) (by omega)
          obtain ⟨v, hv, hv2⟩ := key r.Blows.length 0 1 n (by omega) (by omega) (by omega) (by have := hr.nb; omega)
          simp only [Int.natCast_zero] at hv
          rw [hv]
          rcases hv2 with rfl | rfl
          · left; rfl
          · right; exact ⟨rfl, hsr, by omega, by omega⟩
        · right
          have e6 : (checkR r != 0) = true := by simpa using h6
          rw [e6]
          exact ⟨rfl, hsr, by omega, by omega⟩
end
def exR : Run := ⟨exD, [⟨0, ⟨10, 14⟩⟩, ⟨0, ⟨12, 15⟩⟩, ⟨3, ⟨4, 6⟩⟩], [⟨13, 1⟩, ⟨5, 3⟩], 0⟩
set_option maxRecDepth 1000000 in
theorem ex_small : SmallR exR := by refine ⟨⟨?_, ?_, ?_⟩, ?_, ?_⟩ <;> decide
set_option maxRecDepth 1000000 in
theorem ex_many : manyC exR = (22, 0) := by kernel_rfl
theorem ex_of (n : Nat) : F_law13_Example n = some exR := rfl
end Go.Proofs.Yteihdclpiekmaaa
end
section
namespace Go.Proofs.Yteihdclpiekmaaa
open Go Go.RowKit Go.Dec
set_option linter.unusedVariables false
theorem askN_le (a : Blow → Int → Bool) (bl : List Blow) (c : List Int) : askN a bl c ≤ bl.length := by
  unfold askN
  refine Nat.le_trans List.countP_le_length ?_
  rw [List.length_zip]; omega
theorem harm_low {r : Run} (hr : ROk r) (h : errR r true = 0) : (harmT r).1 = ⟨fmin (fun c => (askN (fellA r.Canopy true) r.Blows c : Int)) (truthsC r) r.Blows.length, fmax (fun c => (askN (fellA r.Canopy false) r.Blows c : Int)) (truthsC r) 0⟩ := by
  unfold harmT; rw [if_pos h]
theorem stood_err (r : Run) : (stoodT r).2 = errR r true := by
  unfold stoodT
  split
  · rename_i h; exact h.symm
  · rfl
theorem forces_in {r : Run} {i : Int} (h0 : 0 ≤ i) (h1 : i < r.Blows.length) : forcesT r i = if errR r true = 0 then (forcesL r i, 0) else ([], errR r true) := by
  have e : wi i 0 ((r.Blows.length : Int) - 1) = true := wi_t.2 ⟨h0, by omega⟩
  unfold forcesT; rw [e]
end Go.Proofs.Yteihdclpiekmaaa
end
section
namespace Go.Proofs.Yteihdclpiekmaaa
open Go Go.RowKit Go.Dec
theorem stands_less {d o : Canopy} (hd : DOk d) (hdo : DOk o) (same : Same d o) (hB : ∀ j, j < d.Ribs.length → stB d j ≤ stB o j) (hW : ∀ j, j < d.Ribs.length → stW d j ≤ stW o j) {f f' a : Int} (h0 : 0 ≤ f') (hl : f' ≤ f) :
    (standsI d [⟨f, a⟩] = 1 → standsI o [⟨f', a⟩] = 1) ∧ (standsI o [⟨f', a⟩] = 2 → standsI d [⟨f, a⟩] = 2) := by
  have first : ∀ j, j < d.Ribs.length → firstP o ⟨f', a⟩ j = true → firstP d ⟨f, a⟩ j = true := fun j hj h => by
    unfold firstP at h ⊢
    rw [same.n] at h
    exact less_may (g := ⟨f, a⟩) (g' := ⟨f', a⟩) hd same rfl h0 hl hW hj h
  have firstb : ∀ j, j < d.Ribs.length → firstB o ⟨f', a⟩ j = true → firstB d ⟨f, a⟩ j = true := fun j hj h => by
    unfold firstB at h ⊢
    rw [same.n] at h
    exact less_sure (g := ⟨f, a⟩) (g' := ⟨f', a⟩) hd same rfl h0 hl hB hj h
  constructor
  · intro hc
    rw [stands_one] at hc ⊢
    intro z hz
    rw [List.mem_singleton.1 hz, same.n]
    exact noneP_mono first (hc _ (by simp))
  · intro hc
    rw [stands_two hdo (fun z hz => by rw [List.mem_singleton.1 hz]; exact h0)] at hc
    rw [stands_two hd (fun z hz => by rw [List.mem_singleton.1 hz]; exact Int.le_trans h0 hl)]
    intro hall
    refine hc fun z hz => ?_
    rw [List.mem_singleton.1 hz, same.n]
    exact noneP_mono firstb (hall _ (by simp))
theorem stands_val (d : Canopy) (l : List Gust) : standsI d l = 1 ∨ standsI d l = 2 ∨ standsI d l = 3 := by
  unfold standsI
  split
  · exact .inl rfl
  · split
    · exact .inr (.inr rfl)
    · exact .inr (.inl rfl)
theorem fell_t {d : Canopy} {b : Blow} {f : Int} : fellA d true b f = true ↔ standsI d [⟨f, b.At⟩] = 2 := by simp [fellA]
theorem fell_f {d : Canopy} {b : Blow} {f : Int} : fellA d false b f = true ↔ standsI d [⟨f, b.At⟩] ≠ 1 := by
  rcases stands_val d [⟨f, b.At⟩] with h | h | h <;> simp [fellA, h]
theorem askN_mono {a a' : Blow → Int → Bool} {bl : List Blow} {c : List Int} (h : ∀ p ∈ bl.zip c, a p.1 p.2 = true → a' p.1 p.2 = true) : askN a bl c ≤ askN a' bl c := by
  unfold askN
  exact List.countP_mono_left h
theorem fell_tf {d : Canopy} {b : Blow} {f : Int} (h : fellA d true b f = true) : fellA d false b f = true := fell_f.2 (by rw [fell_t.1 h]; decide)
theorem askN_pos {a : Blow → Int → Bool} {bl : List Blow} {c : List Int} {i : Nat} {b : Blow} {f : Int} (hb : bl[i]? = some b) (hc : c[i]? = some f) (h : a b f = true) : 1 ≤ askN a bl c := by
  unfold askN
  have hm : (b, f) ∈ bl.zip c := List.mem_of_getElem? (i := i) (by rw [List.getElem?_zip_eq_some]; exact ⟨hb, hc⟩)
  exact List.countP_pos_iff.2 ⟨_, hm, h⟩
/-- what is known of Harm -/
theorem harm_spec {r : Run} (e : errR r true = 0) : 0 ≤ (harmT r).1.Low ∧ (harmT r).1.Low ≤ (harmT r).1.High ∧ (harmT r).1.High ≤ r.Blows.length ∧ (∀ c ∈ truthsC r, (harmT r).1.Low ≤ (askN (fellA r.Canopy true) r.Blows c : Int) ∧ (askN (fellA r.Canopy false) r.Blows c : Int) ≤ (harmT r).1.High)
    ∧ (harmT r).1.Low = fmin (fun c => (askN (fellA r.Canopy true) r.Blows c : Int)) (truthsC r) r.Blows.length ∧ (harmT r).1.High = fmax (fun c => (askN (fellA r.Canopy false) r.Blows c : Int)) (truthsC r) 0 := by
  obtain ⟨hr, _, hne⟩ := errR_ok e
  rw [harm_low hr e]
  simp only
  obtain ⟨⟨l1, l2⟩, l3⟩ := fmin_spec (fun c => (askN (fellA r.Canopy true) r.Blows c : Int)) (truthsC r) r.Blows.length
  obtain ⟨⟨u1, u2⟩, u3⟩ := fmax_spec (fun c => (askN (fellA r.Canopy false) r.Blows c : Int)) (truthsC r) 0
  obtain ⟨c, hc⟩ := List.exists_mem_of_ne_nil _ hne
  have h1 := l2 c hc
  have h2 := u2 c hc
  have h3 : askN (fellA r.Canopy true) r.Blows c ≤ askN (fellA r.Canopy false) r.Blows c := askN_mono fun p _ h => fell_tf h
  refine ⟨?_, ?_, ?_, fun c hc => ⟨l2 c hc, u2 c hc⟩, trivial, trivial⟩
  · rcases l3 with h | ⟨x, _, h⟩ <;> omega
  · omega
  · rcases u3 with h | ⟨x, _, h⟩
    · omega
    · have := askN_le (fellA r.Canopy false) r.Blows x; omega
theorem forces_at {r : Run} (e : errR r true = 0) {i : Nat} (hi : i < r.Blows.length) : (∀ f ∈ forcesL r (i : Int), 0 ≤ f ∧ f ≤ 99) ∧ forcesL r (i : Int) ≠ [] := by
  obtain ⟨hr, _, hne⟩ := errR_ok e
  constructor
  · intro f hf
    obtain ⟨c, hc, h⟩ := (forces_mem hr (by omega) (by omega)).1 hf
    rw [Int.toNat_natCast] at h
    have hb := hr.b _ (List.getElem_mem hi)
    have h2 := (mem_cases.1 (truth_case hc)).2 i _ _ (List.getElem?_eq_getElem hi) h
    have := hb.lo; have := hb.hi
    omega
  · obtain ⟨c, hc⟩ := List.exists_mem_of_ne_nil _ hne
    have hl := casesS_len (truth_case hc)
    have : c[i] ∈ forcesL r (i : Int) := (forces_mem hr (by omega) (by omega)).2 ⟨c, hc, by rw [Int.toNat_natCast]; exact List.getElem?_eq_getElem (by omega)⟩
    intro h0
    rw [h0] at this; cases this
end Go.Proofs.Yteihdclpiekmaaa
end
section
namespace Go.Proofs.Yteihdclpiekmaaa
open Go Go.RowKit Go.Dec
theorem p_isRun {n : Nat} (hn : 100000000 ≤ n) (r : Run) : F_top_isRun n r = some false ∨ (F_top_isRun n r = some true ∧ ROk r) := by
  unfold F_top_isRun
  rcases p_Far13 hn r with h | ⟨h, hs, _⟩
  · left; rw [h]; rfl
  · rw [h]
    simp only [Option.bind_some, Bool.not_false, if_true, p_Check13 hn hs]
    by_cases h6 : checkR r = 0
    · right; exact ⟨by simp [h6], checkR_ok.1 h6⟩
    · left
      have : (checkR r == 0) = false := by simpa using h6
      rw [this]
theorem tested_any {n : Nat} (hn : 100000000 ≤ n) : F_top_tested n = some true := by
  have e1 : F_law05_Example n = some exD := rfl
  simp only [F_top_tested, e1, Option.bind_some, p_Lift hn (show Small exD from ex_small.1), ex_lift, ex_of, p_Many hn ex_small, ex_many]
  rfl
theorem sorted_last : ∀ {l : List Int}, l.Pairwise (· < ·) → ∀ {x}, l[l.length - 1]? = some x → ∀ y ∈ l, y ≤ x := by
  intro l hp x hx y hy
  obtain ⟨i, hi, rfl⟩ := List.getElem_of_mem hy
  obtain ⟨hl, rfl⟩ := List.getElem?_eq_some_iff.1 hx
  rcases Nat.lt_or_ge i (l.length - 1) with h | h
  · exact Int.le_of_lt (List.pairwise_iff_getElem.1 hp i (l.length - 1) hi hl h)
  · have : i = l.length - 1 := by omega
    subst this; exact Int.le_refl _
/-- the greatest force of a blow in some truth -/
def gmax (r : Run) (i : Nat) : Int := ((forcesL r (i : Int))[(forcesL r (i : Int)).length - 1]?).getD 0
def greatL (r : Run) : List Gust := (List.range r.Blows.length).map fun i => ⟨gmax r i, (blowAt r (i : Int)).At⟩
theorem gmax_get {r : Run} (e : errR r true = 0) {i : Nat} (hi : i < r.Blows.length) : (forcesL r (i : Int))[(forcesL r (i : Int)).length - 1]? = some (gmax r i) ∧ (∃ c ∈ truthsC r, c[i]? = some (gmax r i)) ∧ (∀ c ∈ truthsC r, ∀ f, c[i]? = some f → f ≤ gmax r i) ∧ (0 ≤ gmax r i ∧ gmax r i ≤ 99) := by
  obtain ⟨hr, _, _⟩ := errR_ok e
  obtain ⟨f1, f2⟩ := forces_at e hi
  have hpos : 0 < (forcesL r (i : Int)).length := List.length_pos_iff.2 f2
  have fm : ∀ f, f ∈ forcesL r (i : Int) ↔ ∃ c ∈ truthsC r, c[i]? = some f := fun f => by
    have := forces_mem hr (i := (i : Int)) (f := f) (by omega) (by omega)
    rwa [Int.toNat_natCast] at this
  have hg : (forcesL r (i : Int))[(forcesL r (i : Int)).length - 1]? = some (gmax r i) := by
    unfold gmax
    rw [List.getElem?_eq_getElem (by omega)]; rfl
  have hm := List.mem_of_getElem? hg
  exact ⟨hg, (fm _).1 hm, fun c hc f hf => sorted_last (forces_sorted r (i : Int)) hg f ((fm f).2 ⟨c, hc, hf⟩), f1 _ hm⟩
theorem great_get {r : Run} {i : Nat} (hi : i < r.Blows.length) : (greatL r)[i]? = some ⟨gmax r i, (blowAt r (i : Int)).At⟩ := by
  unfold greatL
  rw [List.getElem?_map, List.getElem?_range hi]; rfl
theorem great_len (r : Run) : (greatL r).length = r.Blows.length := by unfold greatL; simp
theorem blow_at {r : Run} {i : Nat} (hi : i < r.Blows.length) : blowAt r (i : Int) = r.Blows[i] := blowAt_of (by rw [Int.toNat_natCast]; exact List.getElem?_eq_getElem hi)
theorem great_mem {r : Run} {g : Gust} : g ∈ greatL r ↔ ∃ i, i < r.Blows.length ∧ g = ⟨gmax r i, (blowAt r (i : Int)).At⟩ := by
  unfold greatL
  rw [List.mem_map]
  constructor
  · rintro ⟨i, hi, rfl⟩; exact ⟨i, List.mem_range.1 hi, rfl⟩
  · rintro ⟨i, hi, rfl⟩; exact ⟨i, List.mem_range.2 hi, rfl⟩
theorem great_ok {r : Run} (e : errR r true = 0) {g : Gust} (hg : g ∈ greatL r) : GOk r.Canopy.Ribs.length g := by
  obtain ⟨hr, _, _⟩ := errR_ok e
  obtain ⟨i, hi, rfl⟩ := great_mem.1 hg
  have h1 := (gmax_get e hi).2.2.2
  have h2 := (hr.b _ (List.getElem_mem hi)).at_
  rw [blow_at hi]
  exact ⟨h1, h2⟩
theorem p_greatest {n : Nat} (hn : 100000000 ≤ n) {r : Run} (e : errR r true = 0) : F_top_greatest n r = some (greatL r, true) := by
  obtain ⟨hr, _, _⟩ := errR_ok e
  have hs := hr.small
  have hnb := hr.nb
  have key := loop_run (step := F_top_greatest_s1 n r) (fun j => ((j : Int), (greatL r).take j)) (r := Sum.inr (greatL r)) r.Blows.length 0 n (fun j _ hj => by
    have hj : j < r.Blows.length := by omega
    obtain ⟨h1, _⟩ := gmax_get e hj
    obtain ⟨_, f2⟩ := forces_at e hj
    have fl := forces_len hr (i := (j : Int)) (by omega) (by omega)
    have hpos : 0 < (forcesL r (j : Int)).length := List.length_pos_iff.2 f2
    have hg : geti (forcesL r (j : Int)) (w64 (((forcesL r (j : Int)).length : Int) - 1)) = some (gmax r j) := by
      rw [w64_id (by omega) (by omega), show ((forcesL r (j : Int)).length : Int) - 1 = (((forcesL r (j : Int)).length - 1 : Nat) : Int) by omega, geti_nat]
      exact h1
    have hb : r.Blows[j]? = some (blowAt r (j : Int)) := by rw [blow_at hj]; exact List.getElem?_eq_getElem hj
    have ht : (greatL r).take (j + 1) = (greatL r).take j ++ [⟨gmax r j, (blowAt r (j : Int)).At⟩] := by rw [List.take_add_one, great_get hj]; rfl
    have hlim : lim ((greatL r).take j ++ [⟨gmax r j, (blowAt r (j : Int)).At⟩]) = some ((greatL r).take j ++ [⟨gmax r j, (blowAt r (j : Int)).At⟩]) := lim_ok (by rw [List.length_append, List.length_take, great_len, List.length_singleton]; omega)
    have c1 : (((0 : Int) != 0) || (((forcesL r (j : Int)).length : Int) == 0) || decide (20 < ((forcesL r (j : Int)).length : Int))) = false := by
      have a1 : (((forcesL r (j : Int)).length : Int) == 0) = false := by rw [beq_eq_false_iff_ne]; omega
      have a2 : decide (20 < ((forcesL r (j : Int)).length : Int)) = false := decide_eq_false (by omega)
      rw [a1, a2]; rfl
    simp only [F_top_greatest_s1, lt_nat, hj, decide_true, if_true, p_Forces hn hs, forces_in (r := r) (i := (j : Int)) (by omega) (by omega), e, Option.bind_some, c1, Bool.false_eq_true, if_false, hg, geti_nat, hb, hlim, ht, w64_nat (show j ≤ 4611686018427387904 by omega)]) (by
    rw [Nat.zero_add, List.take_of_length_le (by rw [great_len]; omega)]
    simp [F_top_greatest_s1]) (by omega)
  simp only [List.take_zero, show ((0 : Nat) : Int) = 0 from rfl] at key
  simp only [F_top_greatest, key, Option.bind_some]
/-- the dome surely stood just if it stands the greatest forces -/
theorem high_zero {r o : Run} (e : errR r true = 0) (ho : ROk o) (hb : o.Blows = r.Blows) (ht : truthsC o = truthsC r) : errR o true = 0 ∧ ((harmT o).1.High = 0 ↔ ∀ g ∈ greatL r, standsI o.Canopy [g] = 1) := by
  obtain ⟨hr, _, hne⟩ := errR_ok e
  have eo : errR o true = 0 := by rw [errR_true ho, ht, ← errR_true hr]; exact e
  refine ⟨eo, ?_⟩
  obtain ⟨_, _, _, s3, _, s5⟩ := harm_spec eo
  have hd := ho.d
  constructor
  · intro h0 g hg
    obtain ⟨i, hi, rfl⟩ := great_mem.1 hg
    obtain ⟨_, ⟨c, hc, hci⟩, _, _⟩ := gmax_get e hi
    have h1 := (s3 c (by rw [ht]; exact hc)).2
    rw [blow_at hi]
    refine Classical.byContradiction fun hn => ?_
    have h2 := askN_pos (a := fellA o.Canopy false) (bl := o.Blows) (c := c) (i := i) (b := r.Blows[i]) (by rw [hb]; exact List.getElem?_eq_getElem hi) hci (fell_f.2 hn)
    omega
  · intro hall
    rw [s5]
    obtain ⟨_, h3⟩ := fmax_spec (fun c => (askN (fellA o.Canopy false) o.Blows c : Int)) (truthsC o) 0
    rcases h3 with h3 | ⟨c, hc, h3⟩
    · exact h3
    · rw [h3]
      have hz : askN (fellA o.Canopy false) o.Blows c = 0 := by
        unfold askN
        rw [List.countP_eq_zero]
        intro p hp hf
        obtain ⟨i, hi⟩ := List.mem_iff_getElem?.1 hp
        rw [List.getElem?_zip_eq_some] at hi
        obtain ⟨hi1, hi2⟩ := hi
        have hil : i < r.Blows.length := by rw [← hb]; exact (List.getElem?_eq_some_iff.1 hi1).1
        rw [hb, List.getElem?_eq_getElem hil] at hi1
        have hpb : r.Blows[i] = p.1 := by simpa using hi1
        rw [ht] at hc
        obtain ⟨_, _, hmx, _⟩ := gmax_get e hil
        have hle := hmx c hc _ hi2
        have hin := (mem_cases.1 (truth_case hc)).2 i p.1 p.2 (by rw [List.getElem?_eq_getElem hil, hpb]) hi2
        have hlo := (hr.b p.1 (by rw [← hpb]; exact List.getElem_mem hil)).lo
        have hst := hall _ (great_mem.2 ⟨i, hil, rfl⟩)
        rw [blow_at hil, hpb] at hst
        have := (stands_less hd hd ⟨rfl, rfl, rfl⟩ (fun j _ => Int.le_refl _) (fun j _ => Int.le_refl _) (f := gmax r i) (f' := p.2) (a := p.1.At) (by omega) hle).1 hst
        exact fell_f.1 hf this
      omega
theorem stood_high {o : Run} (eo : errR o true = 0) : (stoodT o).1 = 1 ↔ (harmT o).1.High = 0 := by
  unfold stoodT
  rw [if_pos eo]
  simp only
  by_cases h : (harmT o).1.High = 0
  · simp [h]
  · rw [if_neg h]
    split <;> simp [h]
end Go.Proofs.Yteihdclpiekmaaa
end
section
namespace Go.Proofs.Yteihdclpiekmaaa
open Go Go.RowKit Go.Dec
/-- a loop over a span -/
theorem loop_span {σ ρ : Type} {step : Int × σ → Option ((Int × σ) ⊕ ρ)} {hi : Int} (g : σ → Int → σ) (fin : σ → ρ) (I : Int → σ → Prop) : ∀ (k : Nat) (lo : Int) (s : σ) (n : Nat), (hi + 1 - lo).toNat = k → I lo s →
    (∀ b s, lo ≤ b → b ≤ hi → I b s → step (b, s) = some (.inl (b + 1, g s b)) ∧ I (b + 1) (g s b)) → (∀ b s, hi < b → step (b, s) = some (.inr (fin s))) → k < n →
    loopO n step (lo, s) = some (fin ((span lo hi).foldl g s)) := by
  intro k
  induction k with
  | zero =>
    intro lo s n hk _ _ hd hn
    rw [span_nil (by omega)]
    exact loop_done (hd lo s (by omega)) hn
  | succ k ih =>
    intro lo s n hk hI h hd hn
    obtain ⟨m, rfl⟩ : ∃ k, n = k + 1 := ⟨n - 1, by omega⟩
    obtain ⟨h1, h2⟩ := h lo s (Int.le_refl _) (by omega) hI
    rw [loopO_succ, h1, span_cons (by omega), List.foldl_cons]
    exact ih (lo + 1) _ m (by omega) h2 (fun b s hb => h b s (by omega)) hd (by omega)
theorem foldl_app {α β : Type} (g : α → List β) : ∀ (l : List α) (s : List β), l.foldl (fun s x => s ++ g x) s = s ++ l.flatMap g
  | [], s => by simp
  | a :: l, s => by rw [List.foldl_cons, foldl_app g l, List.flatMap_cons, List.append_assoc]
theorem foldl_cnt {α : Type} (p : α → Bool) : ∀ (l : List α) (s : Nat), l.foldl (fun s x => if p x = true then s + 1 else s) s = s + l.countP p
  | [], s => by simp
  | a :: l, s => by
    rw [List.foldl_cons, foldl_cnt p l, List.countP_cons]
    cases p a <;> simp <;> omega
theorem foldl_filter' {α : Type} (p : α → Bool) : ∀ (l s : List α), l.foldl (fun s x => if p x = true then s ++ [x] else s) s = s ++ l.filter p
  | [], s => by simp
  | a :: l, s => by
    rw [List.foldl_cons, foldl_filter' p l, List.filter_cons]
    cases p a <;> simp
theorem cases_small : ∀ (bl : List Blow), (∀ b ∈ bl, b.Force.High - b.Force.Low ≤ 9) → (casesS bl).length ≤ 10 ^ bl.length
  | [], _ => by simp [casesS]
  | b :: bl, h => by
    have ih := cases_small bl fun x hx => h x (List.mem_cons_of_mem _ hx)
    have hb := h b (List.mem_cons_self ..)
    unfold casesS
    have h1 := flatMap_len (l := span b.Force.Low b.Force.High) (f := fun f => (casesS bl).map fun c => f :: c) (c := (casesS bl).length) fun x _ => by simp
    rw [span_len] at h1
    rw [List.length_cons, Nat.pow_succ, Nat.mul_comm]
    refine Nat.le_trans h1 (Nat.mul_le_mul (by omega) ih)
section
variable {n : Nat} (hn : 200000000 ≤ n)
include hn
theorem p_cases {r : Run} (hr : ROk r) : ∀ (k : Nat) (first : List Int) (m : Nat), first.length + k = r.Blows.length → 100000000 + k < m → F_ref13_cases m r first = some ((casesS (r.Blows.drop first.length)).map (first ++ ·)) := by
  have _hn := hn
  have hnb := hr.nb
  intro k
  induction k with
  | zero =>
    intro first m hk hm
    obtain ⟨m, rfl⟩ : ∃ k, m = k + 1 := ⟨m - 1, by omega⟩
    have e : ((first.length : Int) == (r.Blows.length : Int)) = true := by simp; omega
    simp only [F_ref13_cases, e, if_true]
    rw [List.drop_eq_nil_of_le (by omega)]
    simp [casesS]
  | succ k ih =>
    intro first m hk hm
    obtain ⟨m, rfl⟩ : ∃ k, m = k + 1 := ⟨m - 1, by omega⟩
    have e : ((first.length : Int) == (r.Blows.length : Int)) = false := by simp; omega
    have hlt : first.length < r.Blows.length := by omega
    have hb := hr.b _ (List.getElem_mem hlt)
    have hbl := hb.le; have hbg := hb.gap; have hb0 := hb.lo; have hbh := hb.hi
    have hgt : geti r.Blows (first.length : Int) = some r.Blows[first.length] := by rw [geti_nat]; exact List.getElem?_eq_getElem hlt
    simp only [F_ref13_cases, e, Bool.false_eq_true, if_false, hgt, Option.bind_some]
    generalize hB : r.Blows[first.length] = b at *
    have hc : (casesS (r.Blows.drop (first.length + 1))).length ≤ 10000000 := by
      have h1 := cases_small (r.Blows.drop (first.length + 1)) fun x hx => (hr.b x (List.mem_of_mem_drop hx)).gap
      have h2 : (r.Blows.drop (first.length + 1)).length ≤ 7 := by rw [List.length_drop]; omega
      have h3 : (10 : Nat) ^ (r.Blows.drop (first.length + 1)).length ≤ 10 ^ 7 := Nat.pow_le_pow_right (by omega) h2
      omega
    have hl := loop_span (step := F_ref13_cases_s1 m (F_ref13_cases m) r first b) (hi := b.Force.High) (fun s f => s ++ (casesS (r.Blows.drop (first.length + 1))).map ((first ++ [f]) ++ ·)) (fun s => s)
      (fun f s => b.Force.Low ≤ f ∧ s.length ≤ (f - b.Force.Low).toNat * (casesS (r.Blows.drop (first.length + 1))).length) _ b.Force.Low [] m rfl ⟨Int.le_refl _, by simp⟩ (fun f s h1 h2 hI => by
        have k1 : (f - b.Force.Low).toNat * (casesS (r.Blows.drop (first.length + 1))).length ≤ 9 * 10000000 := Nat.mul_le_mul (by omega) hc
        have k2 : (f + 1 - b.Force.Low).toNat = (f - b.Force.Low).toNat + 1 := by omega
        have k3 := hI.2
        have e1 : lim (([] : List Int) ++ first) = some first := by rw [List.nil_append]; exact lim_ok (by omega)
        have e2 : lim (first ++ [f]) = some (first ++ [f]) := lim_ok (by simp; omega)
        have e3 := ih (first ++ [f]) m (by simp; omega) (by omega)
        have e4 : (first ++ [f]).length = first.length + 1 := by simp
        rw [e4] at e3
        have e5 : lim (s ++ (casesS (r.Blows.drop (first.length + 1))).map ((first ++ [f]) ++ ·)) = some (s ++ (casesS (r.Blows.drop (first.length + 1))).map ((first ++ [f]) ++ ·)) := lim_ok (by rw [List.length_append, List.length_map]; omega)
        refine ⟨?_, by omega, ?_⟩
        · simp only [F_ref13_cases_s1, decide_eq_true h2, if_true, e1, e2, e3, e5, Option.bind_some, w64_id (show -9223372036854775808 ≤ f + 1 by omega) (show f + 1 ≤ 9223372036854775807 by omega)]
        · rw [k2, Nat.succ_mul, List.length_append, List.length_map]; omega) (fun f s hf => by
        simp only [F_ref13_cases_s1, decide_eq_false (show ¬ f ≤ b.Force.High by omega), Bool.false_eq_true, if_false]) (by omega)
    rw [hl, Option.bind_some]
    congr 1
    rw [foldl_app, List.nil_append, List.drop_eq_getElem_cons hlt, hB]
    conv => rhs; unfold casesS
    rw [List.map_flatMap]
    congr 1
    funext f
    rw [List.map_map]
    congr 1
    funext c
    simp
theorem p_cases0 {r : Run} (hr : ROk r) : F_ref13_cases n r [] = some (casesS r.Blows) := by
  have hnb := hr.nb
  rw [p_cases hn hr r.Blows.length [] n (by simp) (by omega)]
  simp
theorem p_Above13 {c : List Int} (hc : c.length ≤ 100000000) (x : Int) : F_ref13_Above n c x = some (aboveS c x : Int) := by
  have hl := loop_fold (step := F_ref13_Above_s1 n c x) c (fun i (k : Nat) => ((k : Int), (i : Int))) (fun k f => if decide (x ≤ f) = true then k + 1 else k) (fun k => (k : Int)) (fun i k => k ≤ i) (n := n) 0 (Nat.le_refl _) (fun i f k hf hk => by
    have hi : i < c.length := (List.getElem?_eq_some_iff.1 hf).1
    simp only [F_ref13_Above_s1, lt_nat, hi, decide_true, if_true, geti_nat, hf, Option.bind_some, w64_nat (show i ≤ 4611686018427387904 by omega), w64_nat (show k ≤ 4611686018427387904 by omega)]
    by_cases h : x ≤ f
    · simp only [decide_eq_true h, if_true, Option.bind_some]; exact ⟨trivial, by omega⟩
    · simp only [decide_eq_false h, Bool.false_eq_true, if_false, Option.bind_some]; exact ⟨trivial, by omega⟩) (fun k hk => by
    simp [F_ref13_Above_s1]) (by omega)
  have h1 := hl.1
  rw [foldl_cnt (fun f => decide (x ≤ f))] at h1
  unfold F_ref13_Above
  rw [show ((0 : Int), (0 : Int)) = (((0 : Nat) : Int), ((0 : Nat) : Int)) from rfl, h1, Option.bind_some]
  unfold aboveS
  rw [Nat.zero_add]
theorem p_IsRight13 {c : List Int} (hc : c.length ≤ 100000000) (m : Meter) : F_ref13_IsRight n m c = some (rightC m c) := by
  simp only [F_ref13_IsRight, p_Above13 hn hc, Option.bind_some]; rfl
theorem p_Wrongs {r : Run} (hm : r.Meters.length ≤ 1000) {c : List Int} (hc : c.length ≤ 100000000) : F_ref13_Wrongs n r c = some (wrongC r.Meters c : Int) := by
  have hl := loop_fold (step := F_ref13_Wrongs_s1 n r c) r.Meters (fun i (k : Nat) => ((k : Int), (i : Int))) (fun k m => if (!rightC m c) = true then k + 1 else k) (fun k => (k : Int)) (fun i k => k ≤ i) (n := n) 0 (Nat.le_refl _) (fun i m k hf hk => by
    have hi : i < r.Meters.length := (List.getElem?_eq_some_iff.1 hf).1
    simp only [F_ref13_Wrongs_s1, lt_nat, hi, decide_true, if_true, geti_nat, hf, p_IsRight13 hn hc, Option.bind_some, w64_nat (show i ≤ 4611686018427387904 by omega), w64_nat (show k ≤ 4611686018427387904 by omega)]
    cases rightC m c
    · simp only [Bool.not_false, if_true, Option.bind_some]; exact ⟨trivial, by omega⟩
    · simp only [Bool.not_true, Bool.false_eq_true, if_false, Option.bind_some]; exact ⟨trivial, by omega⟩) (fun k hk => by
    simp [F_ref13_Wrongs_s1]) (by omega)
  have h1 := hl.1
  rw [foldl_cnt (fun m => !rightC m c)] at h1
  unfold F_ref13_Wrongs
  rw [show ((0 : Int), (0 : Int)) = (((0 : Nat) : Int), ((0 : Nat) : Int)) from rfl, h1, Option.bind_some]
  unfold wrongC
  rw [Nat.zero_add]
theorem p_truths13 {r : Run} (hr : ROk r) : F_ref13_truths n r = some (truthsC r) := by
  have hnm := hr.nm; have hnb := hr.nb
  have hcl := cases_len hr
  have hl := loop_fold (step := F_ref13_truths_s1 n r (casesS r.Blows)) (casesS r.Blows) (fun i (s : List (List Int)) => ((i : Int), s)) (fun s c => if truthC r c = true then s ++ [c] else s) (fun s => s) (fun i s => s.length ≤ i) (n := n) [] (Nat.le_refl _) (fun i c s hf hk => by
    have hi : i < (casesS r.Blows).length := (List.getElem?_eq_some_iff.1 hf).1
    have hc := casesS_len (List.mem_of_getElem? hf)
    have e : lim (s ++ [c]) = some (s ++ [c]) := lim_ok (by simp; omega)
    simp only [F_ref13_truths_s1, lt_nat, hi, decide_true, if_true, geti_nat, hf, p_Wrongs hn (r := r) (c := c) (by omega) (by omega), Option.bind_some, w64_nat (show i ≤ 4611686018427387904 by omega), e]
    show _ = _ ∧ _
    by_cases h : truthC r c = true
    · have h' : decide ((wrongC r.Meters c : Int) ≤ r.Wrong) = true := h
      simp only [h, h', if_true, Option.bind_some]; exact ⟨trivial, by simp; omega⟩
    · have h' : ¬ decide ((wrongC r.Meters c : Int) ≤ r.Wrong) = true := h
      simp only [h, h', Bool.false_eq_true, if_false, Option.bind_some]; exact ⟨trivial, by omega⟩) (fun s hk => by
    simp [F_ref13_truths_s1]) (by omega)
  have h1 := hl.1
  rw [foldl_filter', List.nil_append] at h1
  simp only [F_ref13_truths, p_cases0 hn hr, Option.bind_some]
  rw [show (0 : Int) = ((0 : Nat) : Int) from rfl, h1]; rfl
def knownT (r : Run) (is : Bool) : List (List Int) × Int := if errR r is = 0 then (truthsC r, 0) else ([], errR r is)
theorem p_known {r : Run} (hs : SmallR r) (is : Bool) : F_ref13_known n r is = some (knownT r is) := by
  simp only [F_ref13_known, p_Check13 (n := n) (by omega) hs, Option.bind_some]
  by_cases hc : checkR r = 0
  · have hr := checkR_ok.1 hc
    rw [hc]
    simp only [bne_self_eq_false, Bool.false_eq_true, if_false]
    unfold knownT errR
    simp only [hc, ne_eq, not_true_eq_false, if_false]
    cases is with
    | false => simp
    | true =>
      simp only [Bool.not_true, Bool.false_eq_true, if_false, p_truths13 hn hr, Option.bind_some, reduceCtorEq]
      by_cases h : truthsC r = []
      · simp [h]
      · have : ((truthsC r).length : Int) ≠ 0 := by simpa using h
        simp [h]
  · have : (checkR r != 0) = true := by simpa using hc
    simp only [this, if_true]
    unfold knownT errR
    simp [hc]
end
end Go.Proofs.Yteihdclpiekmaaa
end
section
namespace Go.Dec
open Go Go.RowKit
theorem Kept.plain {H : Hp} {w w' : World} (h : Kept H w w') (hh : H.hole = none) : Below w.heap.size w w' :=
  ⟨h.below.os, h.below.tape, h.below.output, h.below.size, fun k hk => h.below.block k hk (fun I e => by rw [hh] at e; cases e)⟩
end Go.Dec
end
section
namespace Go.Proofs.Yteihdclpiekmaaa
open Go Go.RowKit Go.Dec
set_option linter.unusedVariables false
def W_Span (x : Span) : Prop := I64 x.Low ∧ I64 x.High
set_option maxRecDepth 100000 in
theorem o_Span {T : Type} {enc : TypeId × Value → T} : Opens enc Try.prog 39 2 R_Span W_Span := by
  intro w base sp held fuel cs y h
  obtain ⟨xs, n, _, rfl, hl, hlen, hf⟩ := DataW.trod_struct Try.underlying39 h
  have hl2 : cs.length = 2 := hl.trans (by kernel_rfl)
  have hx : xs.length = 2 := hlen
  obtain ⟨c0, c1, rfl⟩ : ∃ c0 c1, cs = [c0, c1] := by
    match cs, hl2 with
    | [c0, c1], _ => exact ⟨_, _, rfl⟩
  have co3 : Try.prog.cellsOf 3 = 1 := by kernel_rfl
  have e0 : DataW.trod enc Try.prog w base sp held n 3 (([c0, c1].drop 0).take (Try.prog.cellsOf 3)) = xs[0]? := hf 0 _ rfl
  rw [co3] at e0
  obtain ⟨_, x0, r0, w0⟩ := (Opens.int (by kernel_rfl)) _ _ _ _ _ _ _ (e0.trans (List.getElem?_eq_getElem (by omega)))
  have e1 : DataW.trod enc Try.prog w base sp held n 3 (([c0, c1].drop 1).take (Try.prog.cellsOf 3)) = xs[1]? := hf 1 _ rfl
  rw [co3] at e1
  obtain ⟨_, x1, r1, w1⟩ := (Opens.int (by kernel_rfl)) _ _ _ _ _ _ _ (e1.trans (List.getElem?_eq_getElem (by omega)))
  have q0 : [c0] = [_] := r0
  cases q0
  have q1 : [c1] = [_] := r1
  cases q1
  exact ⟨rfl, ⟨x0, x1⟩, rfl, w0, w1⟩
def W_Frac (x : Frac) : Prop := I64 x.Num ∧ I64 x.Den
set_option maxRecDepth 100000 in
theorem o_Frac {T : Type} {enc : TypeId × Value → T} : Opens enc Try.prog 51 2 R_Frac W_Frac := by
  intro w base sp held fuel cs y h
  obtain ⟨xs, n, _, rfl, hl, hlen, hf⟩ := DataW.trod_struct Try.underlying51 h
  have hl2 : cs.length = 2 := hl.trans (by kernel_rfl)
  have hx : xs.length = 2 := hlen
  obtain ⟨c0, c1, rfl⟩ : ∃ c0 c1, cs = [c0, c1] := by
    match cs, hl2 with
    | [c0, c1], _ => exact ⟨_, _, rfl⟩
  have co3 : Try.prog.cellsOf 3 = 1 := by kernel_rfl
  have e0 : DataW.trod enc Try.prog w base sp held n 3 (([c0, c1].drop 0).take (Try.prog.cellsOf 3)) = xs[0]? := hf 0 _ rfl
  rw [co3] at e0
  obtain ⟨_, x0, r0, w0⟩ := (Opens.int (by kernel_rfl)) _ _ _ _ _ _ _ (e0.trans (List.getElem?_eq_getElem (by omega)))
  have e1 : DataW.trod enc Try.prog w base sp held n 3 (([c0, c1].drop 1).take (Try.prog.cellsOf 3)) = xs[1]? := hf 1 _ rfl
  rw [co3] at e1
  obtain ⟨_, x1, r1, w1⟩ := (Opens.int (by kernel_rfl)) _ _ _ _ _ _ _ (e1.trans (List.getElem?_eq_getElem (by omega)))
  have q0 : [c0] = [_] := r0
  cases q0
  have q1 : [c1] = [_] := r1
  cases q1
  exact ⟨rfl, ⟨x0, x1⟩, rfl, w0, w1⟩
def W_Section (x : Section) : Prop := W_Span x.Arm ∧ W_Span x.Stretch ∧ I64 x.Base ∧ W_Frac x.Gear
set_option maxRecDepth 100000 in
theorem o_Section {T : Type} {enc : TypeId × Value → T} : Opens enc Try.prog 68 7 R_Section W_Section := by
  intro w base sp held fuel cs y h
  obtain ⟨xs, n, _, rfl, hl, hlen, hf⟩ := DataW.trod_struct Try.underlying68 h
  have hl2 : cs.length = 7 := hl.trans (by kernel_rfl)
  have hx : xs.length = 4 := hlen
  obtain ⟨c0, c1, c2, c3, c4, c5, c6, rfl⟩ : ∃ c0 c1 c2 c3 c4 c5 c6, cs = [c0, c1, c2, c3, c4, c5, c6] := by
    match cs, hl2 with
    | [c0, c1, c2, c3, c4, c5, c6], _ => exact ⟨_, _, _, _, _, _, _, rfl⟩
  have co3 : Try.prog.cellsOf 3 = 1 := by kernel_rfl
  have co39 : Try.prog.cellsOf 39 = 2 := by kernel_rfl
  have co51 : Try.prog.cellsOf 51 = 2 := by kernel_rfl
  have e0 : DataW.trod enc Try.prog w base sp held n 39 (([c0, c1, c2, c3, c4, c5, c6].drop 0).take (Try.prog.cellsOf 39)) = xs[0]? := hf 0 _ rfl
  rw [co39] at e0
  obtain ⟨_, x0, r0, w0⟩ := o_Span _ _ _ _ _ _ _ (e0.trans (List.getElem?_eq_getElem (by omega)))
  have e1 : DataW.trod enc Try.prog w base sp held n 39 (([c0, c1, c2, c3, c4, c5, c6].drop 2).take (Try.prog.cellsOf 39)) = xs[1]? := hf 1 _ rfl
  rw [co39] at e1
  obtain ⟨_, x1, r1, w1⟩ := o_Span _ _ _ _ _ _ _ (e1.trans (List.getElem?_eq_getElem (by omega)))
  have e2 : DataW.trod enc Try.prog w base sp held n 3 (([c0, c1, c2, c3, c4, c5, c6].drop 4).take (Try.prog.cellsOf 3)) = xs[2]? := hf 2 _ rfl
  rw [co3] at e2
  obtain ⟨_, x2, r2, w2⟩ := (Opens.int (by kernel_rfl)) _ _ _ _ _ _ _ (e2.trans (List.getElem?_eq_getElem (by omega)))
  have e3 : DataW.trod enc Try.prog w base sp held n 51 (([c0, c1, c2, c3, c4, c5, c6].drop 5).take (Try.prog.cellsOf 51)) = xs[3]? := hf 3 _ rfl
  rw [co51] at e3
  obtain ⟨_, x3, r3, w3⟩ := o_Frac _ _ _ _ _ _ _ (e3.trans (List.getElem?_eq_getElem (by omega)))
  have q0 : [c0, c1] = _ := r0
  cases q0
  have q1 : [c2, c3] = _ := r1
  cases q1
  have q2 : [c4] = [_] := r2
  cases q2
  have q3 : [c5, c6] = _ := r3
  cases q3
  exact ⟨rfl, ⟨x0, x1, x2, x3⟩, rfl, w0, w1, w2, w3⟩
def W_Frame (x : Frame) : Prop := (fun (l : List Section) => (∀ x ∈ l, W_Section x) ∧ l.length ≤ 9223372036854775807) x.Sections ∧ I64 x.Low ∧ I64 x.High ∧ W_Frac x.Ease ∧ I64 x.Rod ∧ I64 x.Case
set_option maxRecDepth 100000 in
theorem o_Frame {T : Type} {enc : TypeId × Value → T} : Opens enc Try.prog 53 7 R_Frame W_Frame := by
  intro w base sp held fuel cs y h
  obtain ⟨xs, n, _, rfl, hl, hlen, hf⟩ := DataW.trod_struct Try.underlying53 h
  have hl2 : cs.length = 7 := hl.trans (by kernel_rfl)
  have hx : xs.length = 6 := hlen
  obtain ⟨c0, c1, c2, c3, c4, c5, c6, rfl⟩ : ∃ c0 c1 c2 c3 c4 c5 c6, cs = [c0, c1, c2, c3, c4, c5, c6] := by
    match cs, hl2 with
    | [c0, c1, c2, c3, c4, c5, c6], _ => exact ⟨_, _, _, _, _, _, _, rfl⟩
  have co3 : Try.prog.cellsOf 3 = 1 := by kernel_rfl
  have co49 : Try.prog.cellsOf 49 = 1 := by kernel_rfl
  have co51 : Try.prog.cellsOf 51 = 2 := by kernel_rfl
  have e0 : DataW.trod enc Try.prog w base sp held n 49 (([c0, c1, c2, c3, c4, c5, c6].drop 0).take (Try.prog.cellsOf 49)) = xs[0]? := hf 0 _ rfl
  rw [co49] at e0
  obtain ⟨_, x0, r0, w0⟩ := (Opens.slice (e := 68) (sz := 7) (by kernel_rfl) (by kernel_rfl) rfl o_Section) _ _ _ _ _ _ _ (e0.trans (List.getElem?_eq_getElem (by omega)))
  have e1 : DataW.trod enc Try.prog w base sp held n 3 (([c0, c1, c2, c3, c4, c5, c6].drop 1).take (Try.prog.cellsOf 3)) = xs[1]? := hf 1 _ rfl
  rw [co3] at e1
  obtain ⟨_, x1, r1, w1⟩ := (Opens.int (by kernel_rfl)) _ _ _ _ _ _ _ (e1.trans (List.getElem?_eq_getElem (by omega)))
  have e2 : DataW.trod enc Try.prog w base sp held n 3 (([c0, c1, c2, c3, c4, c5, c6].drop 2).take (Try.prog.cellsOf 3)) = xs[2]? := hf 2 _ rfl
  rw [co3] at e2
  obtain ⟨_, x2, r2, w2⟩ := (Opens.int (by kernel_rfl)) _ _ _ _ _ _ _ (e2.trans (List.getElem?_eq_getElem (by omega)))
  have e3 : DataW.trod enc Try.prog w base sp held n 51 (([c0, c1, c2, c3, c4, c5, c6].drop 3).take (Try.prog.cellsOf 51)) = xs[3]? := hf 3 _ rfl
  rw [co51] at e3
  obtain ⟨_, x3, r3, w3⟩ := o_Frac _ _ _ _ _ _ _ (e3.trans (List.getElem?_eq_getElem (by omega)))
  have e4 : DataW.trod enc Try.prog w base sp held n 3 (([c0, c1, c2, c3, c4, c5, c6].drop 5).take (Try.prog.cellsOf 3)) = xs[4]? := hf 4 _ rfl
  rw [co3] at e4
  obtain ⟨_, x4, r4, w4⟩ := (Opens.int (by kernel_rfl)) _ _ _ _ _ _ _ (e4.trans (List.getElem?_eq_getElem (by omega)))
  have e5 : DataW.trod enc Try.prog w base sp held n 3 (([c0, c1, c2, c3, c4, c5, c6].drop 6).take (Try.prog.cellsOf 3)) = xs[5]? := hf 5 _ rfl
  rw [co3] at e5
  obtain ⟨_, x5, r5, w5⟩ := (Opens.int (by kernel_rfl)) _ _ _ _ _ _ _ (e5.trans (List.getElem?_eq_getElem (by omega)))
  obtain ⟨v0, q0, s0⟩ := r0
  have q0 : [c0] = [v0] := q0
  cases q0
  have q1 : [c1] = [_] := r1
  cases q1
  have q2 : [c2] = [_] := r2
  cases q2
  have q3 : [c3, c4] = _ := r3
  cases q3
  have q4 : [c5] = [_] := r4
  cases q4
  have q5 : [c6] = [_] := r5
  cases q5
  exact ⟨rfl, ⟨x0, x1, x2, x3, x4, x5⟩, ⟨c0, rfl, s0⟩, w0, w1, w2, w3, w4, w5⟩
def W_Canopy (x : Canopy) : Prop := W_Frame x.Frame ∧ (fun (l : List Span) => (∀ x ∈ l, W_Span x) ∧ l.length ≤ 9223372036854775807) x.Ribs ∧ (fun (l : List Int) => (∀ x ∈ l, I64 x) ∧ l.length ≤ 9223372036854775807) x.Shares
set_option maxRecDepth 100000 in
theorem o_Canopy {T : Type} {enc : TypeId × Value → T} : Opens enc Try.prog 76 9 R_Canopy W_Canopy := by
  intro w base sp held fuel cs y h
  obtain ⟨xs, n, _, rfl, hl, hlen, hf⟩ := DataW.trod_struct Try.underlying76 h
  have hl2 : cs.length = 9 := hl.trans (by kernel_rfl)
  have hx : xs.length = 3 := hlen
  obtain ⟨c0, c1, c2, c3, c4, c5, c6, c7, c8, rfl⟩ : ∃ c0 c1 c2 c3 c4 c5 c6 c7 c8, cs = [c0, c1, c2, c3, c4, c5, c6, c7, c8] := by
    match cs, hl2 with
    | [c0, c1, c2, c3, c4, c5, c6, c7, c8], _ => exact ⟨_, _, _, _, _, _, _, _, _, rfl⟩
  have co23 : Try.prog.cellsOf 23 = 1 := by kernel_rfl
  have co24 : Try.prog.cellsOf 24 = 1 := by kernel_rfl
  have co53 : Try.prog.cellsOf 53 = 7 := by kernel_rfl
  have e0 : DataW.trod enc Try.prog w base sp held n 53 (([c0, c1, c2, c3, c4, c5, c6, c7, c8].drop 0).take (Try.prog.cellsOf 53)) = xs[0]? := hf 0 _ rfl
  rw [co53] at e0
  obtain ⟨_, x0, r0, w0⟩ := o_Frame _ _ _ _ _ _ _ (e0.trans (List.getElem?_eq_getElem (by omega)))
  have e1 : DataW.trod enc Try.prog w base sp held n 24 (([c0, c1, c2, c3, c4, c5, c6, c7, c8].drop 7).take (Try.prog.cellsOf 24)) = xs[1]? := hf 1 _ rfl
  rw [co24] at e1
  obtain ⟨_, x1, r1, w1⟩ := (Opens.slice (e := 39) (sz := 2) (by kernel_rfl) (by kernel_rfl) rfl o_Span) _ _ _ _ _ _ _ (e1.trans (List.getElem?_eq_getElem (by omega)))
  have e2 : DataW.trod enc Try.prog w base sp held n 23 (([c0, c1, c2, c3, c4, c5, c6, c7, c8].drop 8).take (Try.prog.cellsOf 23)) = xs[2]? := hf 2 _ rfl
  rw [co23] at e2
  obtain ⟨_, x2, r2, w2⟩ := (Opens.slice (e := 3) (sz := 1) (by kernel_rfl) (by kernel_rfl) rfl (Opens.int (by kernel_rfl))) _ _ _ _ _ _ _ (e2.trans (List.getElem?_eq_getElem (by omega)))
  obtain ⟨v0_0, q0, s0_0⟩ := r0
  cases q0
  obtain ⟨v1, q1, s1⟩ := r1
  have q1 : [c7] = [v1] := q1
  cases q1
  obtain ⟨v2, q2, s2⟩ := r2
  have q2 : [c8] = [v2] := q2
  cases q2
  exact ⟨rfl, ⟨x0, x1, x2⟩, ⟨c0, c7, c8, rfl, s0_0, s1, s2⟩, w0, w1, w2⟩
def W_Blow (x : Blow) : Prop := I64 x.At ∧ W_Span x.Force
set_option maxRecDepth 100000 in
theorem o_Blow {T : Type} {enc : TypeId × Value → T} : Opens enc Try.prog 98 3 R_Blow W_Blow := by
  intro w base sp held fuel cs y h
  obtain ⟨xs, n, _, rfl, hl, hlen, hf⟩ := DataW.trod_struct Try.underlying98 h
  have hl2 : cs.length = 3 := hl.trans (by kernel_rfl)
  have hx : xs.length = 2 := hlen
  obtain ⟨c0, c1, c2, rfl⟩ : ∃ c0 c1 c2, cs = [c0, c1, c2] := by
    match cs, hl2 with
    | [c0, c1, c2], _ => exact ⟨_, _, _, rfl⟩
  have co3 : Try.prog.cellsOf 3 = 1 := by kernel_rfl
  have co39 : Try.prog.cellsOf 39 = 2 := by kernel_rfl
  have e0 : DataW.trod enc Try.prog w base sp held n 3 (([c0, c1, c2].drop 0).take (Try.prog.cellsOf 3)) = xs[0]? := hf 0 _ rfl
  rw [co3] at e0
  obtain ⟨_, x0, r0, w0⟩ := (Opens.int (by kernel_rfl)) _ _ _ _ _ _ _ (e0.trans (List.getElem?_eq_getElem (by omega)))
  have e1 : DataW.trod enc Try.prog w base sp held n 39 (([c0, c1, c2].drop 1).take (Try.prog.cellsOf 39)) = xs[1]? := hf 1 _ rfl
  rw [co39] at e1
  obtain ⟨_, x1, r1, w1⟩ := o_Span _ _ _ _ _ _ _ (e1.trans (List.getElem?_eq_getElem (by omega)))
  have q0 : [c0] = [_] := r0
  cases q0
  have q1 : [c1, c2] = _ := r1
  cases q1
  exact ⟨rfl, ⟨x0, x1⟩, rfl, w0, w1⟩
def W_Meter (x : Meter) : Prop := I64 x.Limit ∧ I64 x.Count
set_option maxRecDepth 100000 in
theorem o_Meter {T : Type} {enc : TypeId × Value → T} : Opens enc Try.prog 206 2 R_Meter W_Meter := by
  intro w base sp held fuel cs y h
  obtain ⟨xs, n, _, rfl, hl, hlen, hf⟩ := DataW.trod_struct Try.underlying206 h
  have hl2 : cs.length = 2 := hl.trans (by kernel_rfl)
  have hx : xs.length = 2 := hlen
  obtain ⟨c0, c1, rfl⟩ : ∃ c0 c1, cs = [c0, c1] := by
    match cs, hl2 with
    | [c0, c1], _ => exact ⟨_, _, rfl⟩
  have co3 : Try.prog.cellsOf 3 = 1 := by kernel_rfl
  have e0 : DataW.trod enc Try.prog w base sp held n 3 (([c0, c1].drop 0).take (Try.prog.cellsOf 3)) = xs[0]? := hf 0 _ rfl
  rw [co3] at e0
  obtain ⟨_, x0, r0, w0⟩ := (Opens.int (by kernel_rfl)) _ _ _ _ _ _ _ (e0.trans (List.getElem?_eq_getElem (by omega)))
  have e1 : DataW.trod enc Try.prog w base sp held n 3 (([c0, c1].drop 1).take (Try.prog.cellsOf 3)) = xs[1]? := hf 1 _ rfl
  rw [co3] at e1
  obtain ⟨_, x1, r1, w1⟩ := (Opens.int (by kernel_rfl)) _ _ _ _ _ _ _ (e1.trans (List.getElem?_eq_getElem (by omega)))
  have q0 : [c0] = [_] := r0
  cases q0
  have q1 : [c1] = [_] := r1
  cases q1
  exact ⟨rfl, ⟨x0, x1⟩, rfl, w0, w1⟩
def W_Run (x : Run) : Prop := W_Canopy x.Canopy ∧ (fun (l : List Blow) => (∀ x ∈ l, W_Blow x) ∧ l.length ≤ 9223372036854775807) x.Blows ∧ (fun (l : List Meter) => (∀ x ∈ l, W_Meter x) ∧ l.length ≤ 9223372036854775807) x.Meters ∧ I64 x.Wrong
set_option maxRecDepth 100000 in
theorem o_Run {T : Type} {enc : TypeId × Value → T} : Opens enc Try.prog 90 12 R_Run W_Run := by
  intro w base sp held fuel cs y h
  obtain ⟨xs, n, _, rfl, hl, hlen, hf⟩ := DataW.trod_struct Try.underlying90 h
  have hl2 : cs.length = 12 := hl.trans (by kernel_rfl)
  have hx : xs.length = 4 := hlen
  obtain ⟨c0, c1, c2, c3, c4, c5, c6, c7, c8, c9, c10, c11, rfl⟩ : ∃ c0 c1 c2 c3 c4 c5 c6 c7 c8 c9 c10 c11, cs = [c0, c1, c2, c3, c4, c5, c6, c7, c8, c9, c10, c11] := by
    match cs, hl2 with
    | [c0, c1, c2, c3, c4, c5, c6, c7, c8, c9, c10, c11], _ => exact ⟨_, _, _, _, _, _, _, _, _, _, _, _, rfl⟩
  have co3 : Try.prog.cellsOf 3 = 1 := by kernel_rfl
  have co76 : Try.prog.cellsOf 76 = 9 := by kernel_rfl
  have co87 : Try.prog.cellsOf 87 = 1 := by kernel_rfl
  have co88 : Try.prog.cellsOf 88 = 1 := by kernel_rfl
  have e0 : DataW.trod enc Try.prog w base sp held n 76 (([c0, c1, c2, c3, c4, c5, c6, c7, c8, c9, c10, c11].drop 0).take (Try.prog.cellsOf 76)) = xs[0]? := hf 0 _ rfl
  rw [co76] at e0
  obtain ⟨_, x0, r0, w0⟩ := o_Canopy _ _ _ _ _ _ _ (e0.trans (List.getElem?_eq_getElem (by omega)))
  have e1 : DataW.trod enc Try.prog w base sp held n 87 (([c0, c1, c2, c3, c4, c5, c6, c7, c8, c9, c10, c11].drop 9).take (Try.prog.cellsOf 87)) = xs[1]? := hf 1 _ rfl
  rw [co87] at e1
  obtain ⟨_, x1, r1, w1⟩ := (Opens.slice (e := 98) (sz := 3) (by kernel_rfl) (by kernel_rfl) rfl o_Blow) _ _ _ _ _ _ _ (e1.trans (List.getElem?_eq_getElem (by omega)))
  have e2 : DataW.trod enc Try.prog w base sp held n 88 (([c0, c1, c2, c3, c4, c5, c6, c7, c8, c9, c10, c11].drop 10).take (Try.prog.cellsOf 88)) = xs[2]? := hf 2 _ rfl
  rw [co88] at e2
  obtain ⟨_, x2, r2, w2⟩ := (Opens.slice (e := 206) (sz := 2) (by kernel_rfl) (by kernel_rfl) rfl o_Meter) _ _ _ _ _ _ _ (e2.trans (List.getElem?_eq_getElem (by omega)))
  have e3 : DataW.trod enc Try.prog w base sp held n 3 (([c0, c1, c2, c3, c4, c5, c6, c7, c8, c9, c10, c11].drop 11).take (Try.prog.cellsOf 3)) = xs[3]? := hf 3 _ rfl
  rw [co3] at e3
  obtain ⟨_, x3, r3, w3⟩ := (Opens.int (by kernel_rfl)) _ _ _ _ _ _ _ (e3.trans (List.getElem?_eq_getElem (by omega)))
  obtain ⟨v0_0, v0_7, v0_8, q0, s0_0, s0_7, s0_8⟩ := r0
  cases q0
  obtain ⟨v1, q1, s1⟩ := r1
  have q1 : [c9] = [v1] := q1
  cases q1
  obtain ⟨v2, q2, s2⟩ := r2
  have q2 : [c10] = [v2] := q2
  cases q2
  have q3 : [c11] = [_] := r3
  cases q3
  exact ⟨rfl, ⟨x0, x1, x2, x3⟩, ⟨c0, c7, c8, c9, c10, rfl, s0_0, s0_7, s0_8, s1, s2⟩, w0, w1, w2, w3⟩
end Go.Proofs.Yteihdclpiekmaaa
end
section
set_option maxRecDepth 100000
set_option maxHeartbeats 40000000
namespace Go.Proofs.Yteihdclpiekmaaa
open Go Go.RowKit Go.Dec
set_option linter.unusedVariables false
-- 8 ferrule/ferruletop.TopWeak
noncomputable def F_top_TopWeak_s1 (n : Nat) (r : Run) (y14 : (List Int) × Int) : Int × List Span → Option ((Int × List Span) ⊕ (Bool ⊕ (List Span)))
 | (i_518, out_519) => if decide (i_518 < (y14.1.length : Int)) = true then ((geti y14.1 i_518).bind fun y542 => (if decide (y542 < 0) = true then (some true) else ((geti y14.1 i_518).bind fun y555 => some (decide ((r.Canopy.Ribs.length : Int) ≤ y555))) : Option Bool).bind fun p552 => if p552 = true then (some (Sum.inr (Sum.inl false))) else ((geti y14.1 i_518).bind fun y569 => (geti out_519 y569).bind fun y574 => some (Sum.inl ((w64 (i_518 + 1)), (setx out_519 y569 (Span.mk 99999 99999)))))) else (some (Sum.inr (Sum.inr out_519)))
noncomputable def F_top_TopWeak (n : Nat) (r : Run) (left : Int) : Option Bool :=
 (F_top_isRun n r).bind fun y2 => (if (!y2) = true then (some true) else ((F_ref13_CheckShow n r).bind fun y7 => some (y7 != 0)) : Option Bool).bind fun p4 => if p4 = true then ((F_top_tested n).bind fun y9 => some y9) else ((F_top_greatest n r).bind fun y10 => if (!y10.2) = true then (some false) else ((F_gusts_Weak n r.Canopy y10.1).bind fun y14 => if ((y14.2 != 0) || (decide ((r.Canopy.Ribs.length : Int) < (y14.1.length : Int)))) = true then (some false) else ((F_ref13_Copy n r).bind fun y20 => (loopO n (F_top_TopWeak_s1 n r y14) (0, y20.Canopy.Ribs)).bind fun r327 => match r327 with | .inl o => some o | .inr out_325 => (F_counts_Stood n (Run.mk (Canopy.mk y20.Canopy.Frame out_325 y20.Canopy.Shares) y20.Blows y20.Meters y20.Wrong)).bind fun y617 => if ((y617.2 != 0) || (y617.1 != 1)) = true then (some false) else (if ((decide (left < 0)) || (decide ((y14.1.length : Int) ≤ left))) = true then ((F_top_tested n).bind fun y624 => some y624) else ((geti y14.1 left).bind fun y643 => (geti y14.1 left).bind fun y648 => (geti r.Canopy.Ribs y648).bind fun y653 => (geti out_325 y643).bind fun y658 => (F_counts_Stood n (Run.mk (Canopy.mk y20.Canopy.Frame (setx out_325 y643 y653) y20.Canopy.Shares) y20.Blows y20.Meters y20.Wrong)).bind fun y749 => (if ((y749.2 == 0) && (y749.1 != 1)) = true then ((F_top_tested n).bind fun y756 => some y756) else (some false) : Option Bool).bind fun p753 => some p753)))))
theorem c_top_TopWeak (n : Nat) (H : Hp) (r : Run) (r_v0 : Value) (hr_0 : SL H 7 R_Section r_v0 r.Canopy.Frame.Sections) (r_v7 : Value) (hr_7 : SL H 2 R_Span r_v7 r.Canopy.Ribs) (r_v8 : Value) (hr_8 : SL H 1 RInt r_v8 r.Canopy.Shares) (r_v9 : Value) (hr_9 : SL H 3 R_Blow r_v9 r.Blows) (r_v10 : Value) (hr_10 : SL H 2 R_Meter r_v10 r.Meters) (left : Int) (y : Bool) (hF : F_top_TopWeak n r left = some y) : SC Try.prog 8 [.agg [r_v0, .int .i64 r.Canopy.Frame.Low, .int .i64 r.Canopy.Frame.High, .int .i64 r.Canopy.Frame.Ease.Num, .int .i64 r.Canopy.Frame.Ease.Den, .int .i64 r.Canopy.Frame.Rod, .int .i64 r.Canopy.Frame.Case, r_v7, r_v8, r_v9, r_v10, .int .i64 r.Wrong].toArray, .int .i64 left] (.bool y) H := by
 rw [F_top_TopWeak] at hF
 refine SC.of (N := 131) Try.func8 rfl rfl rfl fun w => ?_
 refine JC.seq (JC.region (by rfl) ?_)
 intro hQ
 refine JL.box (cs := [r_v0, .int .i64 r.Canopy.Frame.Low, .int .i64 r.Canopy.Frame.High, .int .i64 r.Canopy.Frame.Ease.Num, .int .i64 r.Canopy.Frame.Ease.Den, .int .i64 r.Canopy.Frame.Rod, .int .i64 r.Canopy.Frame.Case, r_v7, r_v8, r_v9, r_v10, .int .i64 r.Wrong]) rfl .none rfl ?_
 intro b1
 refine JL.assign .none rfl ?_
 refine JL.done hQ (JQ.go (JC.seq (JC.seq (JC.region (by rfl) ?_))))
 intro hQ
 refine JL.loadOwn 0 az_90 rfl rfl rfl .none rfl ?_
 obtain ⟨y2, hy2, hF⟩ := bind_some hF
 refine JL.callS (c_top_isRun n H r r_v0 hr_0 r_v7 hr_7 r_v8 hr_8 r_v9 hr_9 r_v10 hr_10 y2 hy2) rfl en_40 .none rfl ?_
 refine JL.not rfl .none rfl ?_
 refine JL.move .none rfl ?_
 obtain ⟨p4, hp4, hF⟩ := bind_some hF
 refine JL.cut 4 (fun f => f 1 = .int .i64 left ∧ f 2 = .pointer (some ⟨b1, 0, none⟩) ∧ f 20 = .bool p4) ?_ ?_
 ·intro hJ5
  rcases ite_some hp4 with ⟨hc6, hF⟩ | ⟨hc6, hF⟩
  ·skip
   refine JL.skip (.bool rfl rfl rfl hc6) rfl ?_
   refine JL.skip (.bool rfl rfl rfl hc6) rfl ?_
   refine JL.skip (.bool rfl rfl rfl hc6) rfl ?_
   refine JL.pick_t (b := (!y2)) rfl hc6 .none rfl ?_
   obtain rfl := Option.some.inj hF
   exact hJ5 _ ⟨rfl, rfl, rfl⟩
  ·skip
   refine JL.loadOwn 0 az_90 rfl rfl rfl (.some rfl rfl rfl hc6) rfl ?_
   obtain ⟨y7, hy7, hF⟩ := bind_some hF
   refine JL.callS (c_ref13_CheckShow n H r r_v0 hr_0 r_v7 hr_7 r_v8 hr_8 r_v9 hr_9 r_v10 hr_10 y7 hy7) rfl en_41 (.some rfl rfl rfl hc6) rfl ?_
   refine JL.bin rfl rfl rfl (.some rfl rfl rfl hc6) rfl ?_
   refine JL.pick_f (b := (!y2)) rfl hc6 .none rfl ?_
   obtain rfl := Option.some.inj hF
   exact hJ5 _ ⟨rfl, rfl, rfl⟩
 ·rintro f ⟨hf1, hf2, hf20⟩
  refine (JL.norm (i := 1) hf1 (JL.norm (i := 2) hf2 (JL.norm (i := 20) hf20 ?_)))
  refine JL.done hQ (JQ.go ?_)
  rcases ite_some hF with ⟨hc8, hF⟩ | ⟨hc8, hF⟩
  ·refine JC.cond_t (b := p4) rfl hc8 ?_
   refine JC.seq (JC.region (by rfl) ?_)
   intro hQ
   obtain ⟨y9, hy9, hF⟩ := bind_some hF
   refine JL.callS (c_top_tested n H y9 hy9) rfl en_42 .none rfl ?_
   refine JL.assign .none rfl ?_
   refine JL.done hQ (JQ.go (JC.ret (JQ.ret_then ?_)))
   obtain rfl := Option.some.inj hF
   exact JQ.outS rfl (.tmp .nil) rfl
  ·refine JC.cond_f (b := p4) rfl hc8 ?_
   refine JC.skip (JQ.go (JC.seq (JC.region (by rfl) ?_)))
   intro hQ
   refine JL.loadOwn 0 az_90 rfl rfl rfl .none rfl ?_
   obtain ⟨y10, hy10, hF⟩ := bind_some hF
   refine JL.callH (c_top_greatest n H r r_v0 hr_0 r_v7 hr_7 r_v8 hr_8 r_v9 hr_9 r_v10 hr_10 y10 hy10) rfl en_47 .none rfl ?_
   rintro H11 vv12 hs11 ⟨y10a_v0, rfl, hy10a_0⟩
   refine JL.move .none rfl ?_
   refine JL.extract rfl rfl .none rfl ?_
   refine JL.extract rfl rfl .none rfl ?_
   refine JL.assign .none rfl ?_
   refine JL.assign .none rfl ?_
   refine JL.done hQ (JQ.go (JC.seq (JC.seq (JC.region (by rfl) ?_))))
   intro hQ
   refine JL.move .none rfl ?_
   refine JL.not rfl .none rfl ?_
   refine JL.done hQ (JQ.go ?_)
   rcases ite_some hF with ⟨hc13, hF⟩ | ⟨hc13, hF⟩
   ·refine JC.cond_t (b := (!y10.2)) rfl hc13 ?_
    refine JC.seq (JC.region (by rfl) ?_)
    intro hQ
    refine JL.assign .none rfl ?_
    refine JL.done hQ (JQ.go (JC.ret (JQ.ret_then ?_)))
    obtain rfl := Option.some.inj hF
    exact JQ.outS rfl (.tmp .nil) rfl
   ·refine JC.cond_f (b := (!y10.2)) rfl hc13 ?_
    refine JC.skip (JQ.go (JC.seq (JC.region (by rfl) ?_)))
    intro hQ
    refine JL.fieldAddr fo_90_0 rfl .none rfl ?_
    refine JL.loadOwn 0 az_76 rfl rfl rfl .none rfl ?_
    refine JL.move .none rfl ?_
    obtain ⟨y14, hy14, hF⟩ := bind_some hF
    refine JL.callH (c_gusts_Weak n H11 r.Canopy r_v0 (SL.mono R_Section_mono hs11 hr_0) r_v7 (SL.mono R_Span_mono hs11 hr_7) r_v8 (SL.mono RInt.mono hs11 hr_8) y10.1 y10a_v0 hy10a_0 y14 hy14) rfl en_48 .none rfl ?_
    rintro H15 vv16 hs15 ⟨y14a_v0, rfl, hy14a_0⟩
    refine JL.move .none rfl ?_
    refine JL.extract rfl rfl .none rfl ?_
    refine JL.extract rfl rfl .none rfl ?_
    refine JL.assign .none rfl ?_
    refine JL.assign .none rfl ?_
    refine JL.done hQ (JQ.go (JC.fresh (fun f => f 1 = .int .i64 left ∧ f 2 = .pointer (some ⟨b1, 0, none⟩) ∧ f 7 = y14a_v0 ∧ f 8 = .int .i64 y14.2) ⟨rfl, rfl, rfl, rfl⟩ ?_))
    rintro f ⟨hf1, hf2, hf7, hf8⟩
    refine (JC.norm (i := 1) hf1 (JC.norm (i := 2) hf2 (JC.norm (i := 7) hf7 (JC.norm (i := 8) hf8 ?_))))
    refine JC.seq (JC.seq (JC.region (by rfl) ?_))
    intro hQ
    refine JL.move .none rfl ?_
    refine JL.bin rfl rfl rfl .none rfl ?_
    refine JL.move .none rfl ?_
    refine JL.cut 8 (fun f => f 1 = .int .i64 left ∧ f 2 = .pointer (some ⟨b1, 0, none⟩) ∧ f 7 = y14a_v0 ∧ f 46 = .bool ((y14.2 != 0) || (decide ((r.Canopy.Ribs.length : Int) < (y14.1.length : Int))))) ?_ ?_
    ·intro hJ17
     rcases bcases (y14.2 != 0) with hc18 | hc18
     ·skip
      refine JL.skip (.bool rfl rfl rfl hc18) rfl ?_
      refine JL.skip (.bool rfl rfl rfl hc18) rfl ?_
      refine JL.skip (.bool rfl rfl rfl hc18) rfl ?_
      refine JL.skip (.bool rfl rfl rfl hc18) rfl ?_
      refine JL.skip (.bool rfl rfl rfl hc18) rfl ?_
      refine JL.skip (.bool rfl rfl rfl hc18) rfl ?_
      refine JL.skip (.bool rfl rfl rfl hc18) rfl ?_
      refine JL.pick_t (b := (y14.2 != 0)) rfl hc18 .none rfl ?_
      exact hJ17 _ ⟨rfl, rfl, rfl, or_t hc18 rfl⟩
     ·skip
      refine JL.move (.some rfl rfl rfl hc18) rfl ?_
      refine JL.lenSL (R := RInt) ul_23 hy14a_0 (.some rfl rfl rfl hc18) rfl ?_
      refine JL.fieldAddr fo_90_0 rfl (.some rfl rfl rfl hc18) rfl ?_
      refine JL.fieldAddr fo_76_1 rfl (.some rfl rfl rfl hc18) rfl ?_
      refine JL.loadOwn 0 az_24 rfl rfl rfl (.some rfl rfl rfl hc18) rfl ?_
      refine JL.lenSL (R := R_Span) ul_24 (SL.mono R_Span_mono (HSub.trans hs11 hs15) hr_7) (.some rfl rfl rfl hc18) rfl ?_
      refine JL.bin rfl rfl rfl (.some rfl rfl rfl hc18) rfl ?_
      refine JL.pick_f (b := (y14.2 != 0)) rfl hc18 .none rfl ?_
      exact hJ17 _ ⟨rfl, rfl, rfl, or_f hc18 rfl⟩
    ·rintro f ⟨hf1, hf2, hf7, hf46⟩
     refine (JL.norm (i := 1) hf1 (JL.norm (i := 2) hf2 (JL.norm (i := 7) hf7 (JL.norm (i := 46) hf46 ?_))))
     refine JL.done hQ (JQ.go ?_)
     rcases ite_some hF with ⟨hc19, hF⟩ | ⟨hc19, hF⟩
     ·refine JC.cond_t (b := ((y14.2 != 0) || (decide ((r.Canopy.Ribs.length : Int) < (y14.1.length : Int))))) rfl hc19 ?_
      refine JC.seq (JC.region (by rfl) ?_)
      intro hQ
      refine JL.assign .none rfl ?_
      refine JL.done hQ (JQ.go (JC.ret (JQ.ret_then ?_)))
      obtain rfl := Option.some.inj hF
      exact JQ.outS rfl (.tmp .nil) rfl
     ·refine JC.cond_f (b := ((y14.2 != 0) || (decide ((r.Canopy.Ribs.length : Int) < (y14.1.length : Int))))) rfl hc19 ?_
      refine JC.skip (JQ.go (JC.seq (JC.region (by rfl) ?_)))
      intro hQ
      refine JL.loadOwn 0 az_90 rfl rfl rfl .none rfl ?_
      obtain ⟨y20, hy20, hF⟩ := bind_some hF
      refine JL.callXC (x_ref13_Copy n H15 r r_v0 (SL.mono R_Section_mono (HSub.trans hs11 hs15) hr_0) r_v7 (SL.mono R_Span_mono (HSub.trans hs11 hs15) hr_7) r_v8 (SL.mono RInt.mono (HSub.trans hs11 hs15) hr_8) r_v9 (SL.mono R_Blow_mono (HSub.trans hs11 hs15) hr_9) r_v10 (SL.mono R_Meter_mono (HSub.trans hs11 hs15) hr_10) y20 hy20) rfl en_43 .none rfl ?_
      rintro H21 vv22 _ hs21 ⟨y20_v0, y20_xs0, y20_v1, y20_xs1, y20_v2, y20_xs2, y20_v3, y20_xs3, y20_v4, y20_xs4, rfl, rfl, hy20_0, hy20_1, hy20_2, hy20_3, hy20_4⟩
      refine JL.freezeG 4 (R := R_Section) rfl R_Section_mono hy20_0 rfl ?_
      intro H28 hs28 hg29
      refine JL.freezeG 2 (R := RInt) rfl RInt.mono (CH.mono RInt.mono hs28 hy20_2) rfl ?_
      intro H30 hs30 hg31
      refine JL.freezeG 1 (R := R_Blow) rfl R_Blow_mono (CH.mono R_Blow_mono (HSub.trans hs28 hs30) hy20_3) rfl ?_
      intro H32 hs32 hg33
      refine JL.freezeG 0 (R := R_Meter) rfl R_Meter_mono (CH.mono R_Meter_mono (HSub.trans hs28 (HSub.trans hs30 hs32)) hy20_4) rfl ?_
      intro H34 hs34 hg35
      refine JL.alloc ze_90 .none rfl ?_
      intro b36
      refine JL.oneG 0 rfl (fun ho37 => ?_)
      refine JL.storeOwn 0 (cs := [y20_v0, .int .i64 y20.Canopy.Frame.Low, .int .i64 y20.Canopy.Frame.High, .int .i64 y20.Canopy.Frame.Ease.Num, .int .i64 y20.Canopy.Frame.Ease.Den, .int .i64 y20.Canopy.Frame.Rod, .int .i64 y20.Canopy.Frame.Case, y20_v1, y20_v2, y20_v3, y20_v4, .int .i64 y20.Wrong]) az_90 rfl rfl rfl (one_cons (SL.one (SL.mono R_Section_mono (HSub.trans hs30 (HSub.trans hs32 hs34)) hg29)) (one_cons rfl (one_cons rfl (one_cons rfl (one_cons rfl (one_cons rfl (one_cons rfl (one_cons ho37.1 (one_cons (SL.one (SL.mono RInt.mono (HSub.trans hs32 hs34) hg31)) (one_cons (SL.one (SL.mono R_Blow_mono hs34 hg33)) (one_cons (SL.one hg35) (one_cons rfl one_nil)))))))))))) rfl rfl .none ?_
      refine JL.done hQ (JQ.go (JC.seq (JC.seq (JC.region (by rfl) ?_))))
      intro hQ
      refine JL.assign .none rfl ?_
      refine JL.done hQ (JQ.go ?_)
      obtain ⟨r327, hlr327, hKr327⟩ := bind_some hF
      refine JC.join (fun (out_325 : List Span) H326 f bs gs => ∃ (vout_325 : Value) (xsout_325 : List Value), f 1 = .int .i64 left ∧ f 2 = .pointer (some ⟨b1, 0, none⟩) ∧ f 7 = y14a_v0 ∧ f 9 = .pointer (some ⟨b36, 0, none⟩) ∧ bs = [(b36, .cells [y20_v0, .int .i64 y20.Canopy.Frame.Low, .int .i64 y20.Canopy.Frame.High, .int .i64 y20.Canopy.Frame.Ease.Num, .int .i64 y20.Canopy.Frame.Ease.Den, .int .i64 y20.Canopy.Frame.Rod, .int .i64 y20.Canopy.Frame.Case, vout_325, y20_v2, y20_v3, y20_v4, .int .i64 y20.Wrong].toArray 90), (b1, .cells [r_v0, .int .i64 r.Canopy.Frame.Low, .int .i64 r.Canopy.Frame.High, .int .i64 r.Canopy.Frame.Ease.Num, .int .i64 r.Canopy.Frame.Ease.Den, .int .i64 r.Canopy.Frame.Rod, .int .i64 r.Canopy.Frame.Case, r_v7, r_v8, r_v9, r_v10, .int .i64 r.Wrong].toArray 90)] ∧ gs = [⟨vout_325, 39, 2, out_325.length, xsout_325⟩] ∧ CH H326 2 R_Span xsout_325 out_325 ∧ HSub H34 H326 ∧ Sum.inr out_325 = r327) ?_ ?_
      ·skip
       refine JC.block (JC.loop hlr327 (fun (x : Int × List Span) H520 f bs gs => match x with | (i_518, out_519) => ∃ (vout_519 : Value) (xsout_519 : List Value), f 1 = .int .i64 left ∧ f 2 = .pointer (some ⟨b1, 0, none⟩) ∧ f 7 = y14a_v0 ∧ f 9 = .pointer (some ⟨b36, 0, none⟩) ∧ f 10 = .int .i64 i_518 ∧ bs = [(b36, .cells [y20_v0, .int .i64 y20.Canopy.Frame.Low, .int .i64 y20.Canopy.Frame.High, .int .i64 y20.Canopy.Frame.Ease.Num, .int .i64 y20.Canopy.Frame.Ease.Den, .int .i64 y20.Canopy.Frame.Rod, .int .i64 y20.Canopy.Frame.Case, vout_519, y20_v2, y20_v3, y20_v4, .int .i64 y20.Wrong].toArray 90), (b1, .cells [r_v0, .int .i64 r.Canopy.Frame.Low, .int .i64 r.Canopy.Frame.High, .int .i64 r.Canopy.Frame.Ease.Num, .int .i64 r.Canopy.Frame.Ease.Den, .int .i64 r.Canopy.Frame.Rod, .int .i64 r.Canopy.Frame.Case, r_v7, r_v8, r_v9, r_v10, .int .i64 r.Wrong].toArray 90)] ∧ gs = [⟨vout_519, 39, 2, out_519.length, xsout_519⟩] ∧ CH H520 2 R_Span xsout_519 out_519 ∧ HSub H34 H520) ⟨y20_v1, y20_xs1, rfl, rfl, rfl, rfl, rfl, rfl, rfl, (CH.mono R_Span_mono (HSub.trans hs28 (HSub.trans hs30 (HSub.trans hs32 hs34))) hy20_1), (HSub.refl _)⟩ ?_)
       rintro ⟨i_518, out_519⟩ x522 H520 f bs gs ⟨vout_519, xsout_519, hf1, hf2, hf7, hf9, hf10, rfl, rfl, hout_519, hs520⟩ hF hr521
       rw [F_top_TopWeak_s1] at hF
       refine (JC.norm (i := 1) hf1 (JC.norm (i := 2) hf2 (JC.norm (i := 7) hf7 (JC.norm (i := 9) hf9 (JC.norm (i := 10) hf10 ?_)))))
       refine JC.seq (JC.seq (JC.region (by rfl) ?_))
       intro hQ
       refine JL.move .none rfl ?_
       refine JL.move .none rfl ?_
       refine JL.lenSL (R := RInt) ul_23 (SL.mono RInt.mono (HSub.trans hs21 (HSub.trans hs28 (HSub.trans hs30 (HSub.trans hs32 (HSub.trans hs34 hs520))))) hy14a_0) .none rfl ?_
       refine JL.bin rfl rfl rfl .none rfl ?_
       refine JL.done hQ (JQ.go ?_)
       rcases ite_some hF with ⟨hc523, hF⟩ | ⟨hc523, hF⟩
       ·refine JC.cond_t (b := decide (i_518 < (y14.1.length : Int))) rfl hc523 ?_
        refine JC.skip (JQ.go (JC.seq (JC.block (JC.seq (JC.seq (JC.draw (by rfl) mo_ (by kernel_rfl) ?_))))))
        intro hQ
        refine JL.move .none rfl ?_
        refine JL.move .none rfl ?_
        obtain ⟨y542, hy542, hF⟩ := bind_some hF
        refine JL.indexSL (R := RInt) sl_23 (SL.mono RInt.mono (HSub.trans hs21 (HSub.trans hs28 (HSub.trans hs30 (HSub.trans hs32 (HSub.trans hs34 hs520))))) hy14a_0) rfl hy542 .none rfl ?_
        rintro b543 o544 cs545 hc546 - rfl
        refine JL.loadH 0 az_3 rfl hc546 rfl .none rfl ?_
        refine JL.bin rfl rfl rfl .none rfl ?_
        refine JL.move .none rfl ?_
        obtain ⟨p552, hp552, hF⟩ := bind_some hF
        refine JL.cut 10 (fun f => f 1 = .int .i64 left ∧ f 2 = .pointer (some ⟨b1, 0, none⟩) ∧ f 7 = y14a_v0 ∧ f 9 = .pointer (some ⟨b36, 0, none⟩) ∧ f 10 = .int .i64 i_518 ∧ f 70 = .bool p552) ?_ ?_
        ·intro hJ553
         rcases ite_some hp552 with ⟨hc554, hF⟩ | ⟨hc554, hF⟩
         ·skip
          refine JL.skip (.bool rfl rfl rfl hc554) rfl ?_
          refine JL.skip (.bool rfl rfl rfl hc554) rfl ?_
          refine JL.skip (.bool rfl rfl rfl hc554) rfl ?_
          refine JL.skip (.bool rfl rfl rfl hc554) rfl ?_
          refine JL.skip (.bool rfl rfl rfl hc554) rfl ?_
          refine JL.skip (.bool rfl rfl rfl hc554) rfl ?_
          refine JL.skip (.bool rfl rfl rfl hc554) rfl ?_
          refine JL.skip (.bool rfl rfl rfl hc554) rfl ?_
          refine JL.skip (.bool rfl rfl rfl hc554) rfl ?_
          refine JL.pick_t (b := decide (y542 < 0)) rfl hc554 .none rfl ?_
          obtain rfl := Option.some.inj hF
          exact hJ553 _ ⟨rfl, rfl, rfl, rfl, rfl, rfl⟩
         ·skip
          refine JL.move (.some rfl rfl rfl hc554) rfl ?_
          refine JL.move (.some rfl rfl rfl hc554) rfl ?_
          obtain ⟨y555, hy555, hF⟩ := bind_some hF
          refine JL.indexSL (R := RInt) sl_23 (SL.mono RInt.mono (HSub.trans hs21 (HSub.trans hs28 (HSub.trans hs30 (HSub.trans hs32 (HSub.trans hs34 hs520))))) hy14a_0) rfl hy555 (.some rfl rfl rfl hc554) rfl ?_
          rintro b556 o557 cs558 hc559 - rfl
          refine JL.loadH 0 az_3 rfl hc559 rfl (.some rfl rfl rfl hc554) rfl ?_
          refine JL.fieldAddr fo_90_0 rfl (.some rfl rfl rfl hc554) rfl ?_
          refine JL.fieldAddr fo_76_1 rfl (.some rfl rfl rfl hc554) rfl ?_
          refine JL.loadOwn 1 az_24 rfl rfl rfl (.some rfl rfl rfl hc554) rfl ?_
          refine JL.lenSL (R := R_Span) ul_24 (SL.mono R_Span_mono (HSub.trans hs11 (HSub.trans hs15 (HSub.trans hs21 (HSub.trans hs28 (HSub.trans hs30 (HSub.trans hs32 (HSub.trans hs34 hs520))))))) hr_7) (.some rfl rfl rfl hc554) rfl ?_
          refine JL.bin rfl rfl rfl (.some rfl rfl rfl hc554) rfl ?_
          refine JL.pick_f (b := decide (y542 < 0)) rfl hc554 .none rfl ?_
          obtain rfl := Option.some.inj hF
          exact hJ553 _ ⟨rfl, rfl, rfl, rfl, rfl, rfl⟩
        ·rintro f ⟨hf1, hf2, hf7, hf9, hf10, hf70⟩
         refine (JL.norm (i := 1) hf1 (JL.norm (i := 2) hf2 (JL.norm (i := 7) hf7 (JL.norm (i := 9) hf9 (JL.norm (i := 10) hf10 (JL.norm (i := 70) hf70 ?_))))))
         refine JL.doneQ hQ ?_
         refine JQ.go ?_
         rcases ite_some hF with ⟨hc560, hF⟩ | ⟨hc560, hF⟩
         ·refine JC.cond_t (b := p552) rfl hc560 ?_
          refine JC.seq (JC.region (by rfl) ?_)
          intro hQ
          refine JL.assign .none rfl ?_
          refine JL.done hQ (JQ.go (JC.ret (JQ.ret_then (JQ.ret_block (JQ.ret_then (JQ.ret_then (JQ.ret_block (JQ.ret_join (JQ.ret_then ?_)))))))))
          obtain rfl := Option.some.inj hF
          have ehr521 := hr521 _ rfl
          subst ehr521
          have hF := hKr327
          try dsimp only at hF
          obtain rfl := Option.some.inj hF
          exact JQ.outS rfl (.tmp .nil) rfl
         ·refine JC.cond_f (b := p552) rfl hc560 ?_
          refine JC.skip (JQ.go ?_)
          obtain ⟨y569, hy569, hF⟩ := bind_some hF
          obtain ⟨y574, hy574, hF⟩ := bind_some hF
          refine JC.mixed 9 10 #[false, false, false, false, false, false, false, false, false, false] [(b36, .cells [y20_v0, .int .i64 y20.Canopy.Frame.Low, .int .i64 y20.Canopy.Frame.High, .int .i64 y20.Canopy.Frame.Ease.Num, .int .i64 y20.Canopy.Frame.Ease.Den, .int .i64 y20.Canopy.Frame.Rod, .int .i64 y20.Canopy.Frame.Case, vout_519, y20_v2, y20_v3, y20_v4, .int .i64 y20.Wrong].toArray 90), (b1, .cells [r_v0, .int .i64 r.Canopy.Frame.Low, .int .i64 r.Canopy.Frame.High, .int .i64 r.Canopy.Frame.Ease.Num, .int .i64 r.Canopy.Frame.Ease.Den, .int .i64 r.Canopy.Frame.Rod, .int .i64 r.Canopy.Frame.Case, r_v7, r_v8, r_v9, r_v10, .int .i64 r.Wrong].toArray 90)] (by rfl) mo_ (by kernel_rfl) (by kernel_rfl) ?_
          intro hQ hE
          refine JA.take 0 (listed' := #[true, false, false, false, false, false, false, false, false, false]) hQ rfl (by kernel_rfl) (by kernel_rfl) (by kernel_rfl) (by kernel_rfl) (by kernel_rfl) hE (HSub.refl _) (.cons_cons _ (.cons_cons _ (List.nil_sublist _))) ?_
          refine JL.fieldAddr fo_90_0 rfl .none rfl ?_
          refine JA.cont ?_
          refine JA.take 1 (listed' := #[true, true, false, false, false, false, false, false, false, false]) hQ rfl (by kernel_rfl) (by kernel_rfl) (by kernel_rfl) (by kernel_rfl) (by kernel_rfl) hE (HSub.refl _) (.cons_cons _ (.cons_cons _ (List.nil_sublist _))) ?_
          refine JL.fieldAddr fo_76_1 rfl .none rfl ?_
          refine JA.cont ?_
          refine JA.take 2 (listed' := #[true, true, true, false, false, false, false, false, false, false]) hQ rfl (by kernel_rfl) (by kernel_rfl) (by kernel_rfl) (by kernel_rfl) (by kernel_rfl) hE (HSub.refl _) (.cons_cons _ (.cons_cons _ (List.nil_sublist _))) ?_
          refine JL.loadOwn 0 az_24 rfl rfl rfl .none rfl ?_
          refine JA.cont ?_
          refine JA.take 3 (listed' := #[true, true, true, true, false, false, false, false, false, false]) hQ rfl (by kernel_rfl) (by kernel_rfl) (by kernel_rfl) (by kernel_rfl) (by kernel_rfl) hE (HSub.refl _) (.cons_cons _ (.cons_cons _ (List.nil_sublist _))) ?_
          refine JL.move .none rfl ?_
          refine JA.cont ?_
          refine JA.take 4 (listed' := #[true, true, true, true, true, false, false, false, false, false]) hQ rfl (by kernel_rfl) (by kernel_rfl) (by kernel_rfl) (by kernel_rfl) (by kernel_rfl) hE (HSub.refl _) (.cons_cons _ (.cons_cons _ (List.nil_sublist _))) ?_
          refine JL.move .none rfl ?_
          refine JA.cont ?_
          refine JA.take 5 (listed' := #[true, true, true, true, true, true, false, false, false, false]) hQ rfl (by kernel_rfl) (by kernel_rfl) (by kernel_rfl) (by kernel_rfl) (by kernel_rfl) hE (HSub.refl _) (.cons_cons _ (.cons_cons _ (List.nil_sublist _))) ?_
          refine JL.indexSL (R := RInt) sl_23 (SL.mono RInt.mono (HSub.trans hs21 (HSub.trans hs28 (HSub.trans hs30 (HSub.trans hs32 (HSub.trans hs34 hs520))))) hy14a_0) rfl hy569 .none rfl ?_
          rintro b607 o608 cs609 hc610 - rfl
          refine JA.cont ?_
          refine JA.take 6 (listed' := #[true, true, true, true, true, true, true, false, false, false]) hQ rfl (by kernel_rfl) (by kernel_rfl) (by kernel_rfl) (by kernel_rfl) (by kernel_rfl) hE (HSub.refl _) (.cons_cons _ (.cons_cons _ (List.nil_sublist _))) ?_
          refine JL.loadH 0 az_3 rfl hc610 rfl .none rfl ?_
          refine JA.cont ?_
          refine JA.take 7 (listed' := #[true, true, true, true, true, true, true, true, false, false]) hQ rfl (by kernel_rfl) (by kernel_rfl) (by kernel_rfl) (by kernel_rfl) (by kernel_rfl) hE (HSub.refl _) (.cons_cons _ (.cons_cons _ (List.nil_sublist _))) ?_
          refine JL.build (l := [.int .i64 99999, .int .i64 99999]) (by kernel_rfl) .none rfl ?_
          refine JA.cont ?_
          refine JA.many [8] (by kernel_rfl) (by simp) (all_one ⟨_, #[true, true, true, true, true, true, true, true, true, false], rfl, (by kernel_rfl), ?_⟩)
          refine JL.indexG 0 (l := out_519) sl_24 rfl rfl rfl rfl hy574 .none rfl ?_
          intro b611 hb612
          refine JA.after hE (HSub.refl _) (.cons_cons _ (.cons_cons _ (List.nil_sublist _))) ?_
          refine JA.many [9] (by kernel_rfl) (by simp) (all_one ⟨_, #[true, true, true, true, true, true, true, true, true, true], rfl, (by kernel_rfl), ?_⟩)
          refine JL.storeG (R := R_Span) 0 (i := y569) (l := out_519) (y := y574) (y' := (Span.mk 99999 99999)) (off := 0) az_39 rfl rfl rfl rfl (one_cons rfl (one_cons rfl one_nil)) rfl hb612 hout_519 rfl hy574 rfl (by rintro cs rfl; rfl) .none ?_
          intro xs613 hch614
          refine JA.sink (by kernel_rfl) ?_
          refine JA.done hQ (by kernel_rfl) ?_
          refine JQ.normal_block (JQ.go (JC.fresh (fun f => f 1 = .int .i64 left ∧ f 2 = .pointer (some ⟨b1, 0, none⟩) ∧ f 7 = y14a_v0 ∧ f 9 = .pointer (some ⟨b36, 0, none⟩) ∧ f 10 = .int .i64 i_518) ⟨rfl, rfl, rfl, rfl, rfl⟩ ?_))
          rintro f ⟨hf1, hf2, hf7, hf9, hf10⟩
          refine (JC.norm (i := 1) hf1 (JC.norm (i := 2) hf2 (JC.norm (i := 7) hf7 (JC.norm (i := 9) hf9 (JC.norm (i := 10) hf10 ?_)))))
          refine JC.region (by rfl) ?_
          intro hQ
          refine JL.move .none rfl ?_
          refine JL.bin rfl rfl rfl .none rfl ?_
          refine JL.assign .none rfl ?_
          refine JL.done hQ ?_
          obtain rfl := Option.some.inj hF
          exact JQ.next rfl ⟨vout_519, xs613, rfl, rfl, rfl, rfl, rfl, rfl, rfl, hch614, hs520⟩
       ·refine JC.cond_f (b := decide (i_518 < (y14.1.length : Int))) rfl hc523 ?_
        refine JC.exit (JQ.exit_then (JQ.exit_then (JQ.exit_block ?_)))
        obtain rfl := Option.some.inj hF
        have ehr521 := hr521 _ rfl
        subst ehr521
        exact JQ.join out_519 ⟨vout_519, xsout_519, rfl, rfl, rfl, rfl, rfl, rfl, hout_519, hs520, rfl⟩
      ·rintro out_325 H326 f bs gs ⟨vout_325, xsout_325, hf1, hf2, hf7, hf9, rfl, rfl, hout_325, hs326, rfl⟩
       have hF := hKr327
       try dsimp only at hF
       refine (JQ.norm (i := 1) hf1 (JQ.norm (i := 2) hf2 (JQ.norm (i := 7) hf7 (JQ.norm (i := 9) hf9 ?_))))
       refine JQ.go (JC.seq (JC.region (by rfl) ?_))
       intro hQ
       refine JL.loadOwn 0 az_90 rfl rfl rfl .none rfl ?_
       obtain ⟨y617, hy617, hF⟩ := bind_some hF
       refine JL.callLG1 (R := R_Span) 0 rfl R_Span_mono hout_325 rfl (fun H615 hs615 hg616 => c_counts_Stood n H615 (Run.mk (Canopy.mk y20.Canopy.Frame out_325 y20.Canopy.Shares) y20.Blows y20.Meters y20.Wrong) y20_v0 (SL.mono R_Section_mono (HSub.trans hs30 (HSub.trans hs32 (HSub.trans hs34 (HSub.trans hs326 hs615)))) hg29) vout_325 hg616 y20_v2 (SL.mono RInt.mono (HSub.trans hs32 (HSub.trans hs34 (HSub.trans hs326 hs615))) hg31) y20_v3 (SL.mono R_Blow_mono (HSub.trans hs34 (HSub.trans hs326 hs615)) hg33) y20_v4 (SL.mono R_Meter_mono (HSub.trans hs326 hs615) hg35) y617 hy617) rfl en_46 .none rfl ?_
       refine JL.move .none rfl ?_
       refine JL.extract rfl rfl .none rfl ?_
       refine JL.extract rfl rfl .none rfl ?_
       refine JL.assign .none rfl ?_
       refine JL.assign .none rfl ?_
       refine JL.done hQ (JQ.go (JC.seq (JC.seq (JC.region (by rfl) ?_))))
       intro hQ
       refine JL.move .none rfl ?_
       refine JL.bin rfl rfl rfl .none rfl ?_
       refine JL.move .none rfl ?_
       refine JL.cut 3 (fun f => f 1 = .int .i64 left ∧ f 2 = .pointer (some ⟨b1, 0, none⟩) ∧ f 7 = y14a_v0 ∧ f 9 = .pointer (some ⟨b36, 0, none⟩) ∧ f 90 = .bool ((y617.2 != 0) || (y617.1 != 1))) ?_ ?_
       ·intro hJ618
        rcases bcases (y617.2 != 0) with hc619 | hc619
        ·skip
         refine JL.skip (.bool rfl rfl rfl hc619) rfl ?_
         refine JL.skip (.bool rfl rfl rfl hc619) rfl ?_
         refine JL.pick_t (b := (y617.2 != 0)) rfl hc619 .none rfl ?_
         exact hJ618 _ ⟨rfl, rfl, rfl, rfl, or_t hc619 rfl⟩
        ·skip
         refine JL.move (.some rfl rfl rfl hc619) rfl ?_
         refine JL.bin rfl rfl rfl (.some rfl rfl rfl hc619) rfl ?_
         refine JL.pick_f (b := (y617.2 != 0)) rfl hc619 .none rfl ?_
         exact hJ618 _ ⟨rfl, rfl, rfl, rfl, or_f hc619 rfl⟩
       ·rintro f ⟨hf1, hf2, hf7, hf9, hf90⟩
        refine (JL.norm (i := 1) hf1 (JL.norm (i := 2) hf2 (JL.norm (i := 7) hf7 (JL.norm (i := 9) hf9 (JL.norm (i := 90) hf90 ?_)))))
        refine JL.done hQ (JQ.go ?_)
        rcases ite_some hF with ⟨hc620, hF⟩ | ⟨hc620, hF⟩
        ·refine JC.cond_t (b := ((y617.2 != 0) || (y617.1 != 1))) rfl hc620 ?_
         refine JC.seq (JC.region (by rfl) ?_)
         intro hQ
         refine JL.assign .none rfl ?_
         refine JL.done hQ (JQ.go (JC.ret (JQ.ret_then ?_)))
         obtain rfl := Option.some.inj hF
         exact JQ.outS rfl (.tmp .nil) rfl
        ·refine JC.cond_f (b := ((y617.2 != 0) || (y617.1 != 1))) rfl hc620 ?_
         refine JC.skip (JQ.go (JC.seq (JC.seq (JC.region (by rfl) ?_))))
         intro hQ
         refine JL.move .none rfl ?_
         refine JL.bin rfl rfl rfl .none rfl ?_
         refine JL.move .none rfl ?_
         refine JL.cut 5 (fun f => f 1 = .int .i64 left ∧ f 2 = .pointer (some ⟨b1, 0, none⟩) ∧ f 7 = y14a_v0 ∧ f 9 = .pointer (some ⟨b36, 0, none⟩) ∧ f 98 = .bool ((decide (left < 0)) || (decide ((y14.1.length : Int) ≤ left)))) ?_ ?_
         ·intro hJ621
          rcases bcases (decide (left < 0)) with hc622 | hc622
          ·skip
           refine JL.skip (.bool rfl rfl rfl hc622) rfl ?_
           refine JL.skip (.bool rfl rfl rfl hc622) rfl ?_
           refine JL.skip (.bool rfl rfl rfl hc622) rfl ?_
           refine JL.skip (.bool rfl rfl rfl hc622) rfl ?_
           refine JL.pick_t (b := decide (left < 0)) rfl hc622 .none rfl ?_
           exact hJ621 _ ⟨rfl, rfl, rfl, rfl, or_t hc622 rfl⟩
          ·skip
           refine JL.move (.some rfl rfl rfl hc622) rfl ?_
           refine JL.move (.some rfl rfl rfl hc622) rfl ?_
           refine JL.lenSL (R := RInt) ul_23 (SL.mono RInt.mono (HSub.trans hs21 (HSub.trans hs28 (HSub.trans hs30 (HSub.trans hs32 (HSub.trans hs34 hs326))))) hy14a_0) (.some rfl rfl rfl hc622) rfl ?_
           refine JL.bin rfl rfl rfl (.some rfl rfl rfl hc622) rfl ?_
           refine JL.pick_f (b := decide (left < 0)) rfl hc622 .none rfl ?_
           exact hJ621 _ ⟨rfl, rfl, rfl, rfl, or_f hc622 rfl⟩
         ·rintro f ⟨hf1, hf2, hf7, hf9, hf98⟩
          refine (JL.norm (i := 1) hf1 (JL.norm (i := 2) hf2 (JL.norm (i := 7) hf7 (JL.norm (i := 9) hf9 (JL.norm (i := 98) hf98 ?_)))))
          refine JL.done hQ (JQ.go ?_)
          rcases ite_some hF with ⟨hc623, hF⟩ | ⟨hc623, hF⟩
          ·refine JC.cond_t (b := ((decide (left < 0)) || (decide ((y14.1.length : Int) ≤ left)))) rfl hc623 ?_
           refine JC.seq (JC.region (by rfl) ?_)
           intro hQ
           obtain ⟨y624, hy624, hF⟩ := bind_some hF
           refine JL.callS (c_top_tested n H326 y624 hy624) rfl en_42 .none rfl ?_
           refine JL.assign .none rfl ?_
           refine JL.done hQ (JQ.go (JC.ret (JQ.ret_then ?_)))
           obtain rfl := Option.some.inj hF
           exact JQ.outS rfl (.tmp .nil) rfl
          ·refine JC.cond_f (b := ((decide (left < 0)) || (decide ((y14.1.length : Int) ≤ left)))) rfl hc623 ?_
           refine JC.skip (JQ.go (JC.seq ?_))
           obtain ⟨y643, hy643, hF⟩ := bind_some hF
           obtain ⟨y648, hy648, hF⟩ := bind_some hF
           obtain ⟨y653, hy653, hF⟩ := bind_some hF
           obtain ⟨y658, hy658, hF⟩ := bind_some hF
           refine JC.mixed 17 18 #[false, false, false, false, false, false, false, false, false, false, false, false, false, false, false, false, false, false] [(b36, .cells [y20_v0, .int .i64 y20.Canopy.Frame.Low, .int .i64 y20.Canopy.Frame.High, .int .i64 y20.Canopy.Frame.Ease.Num, .int .i64 y20.Canopy.Frame.Ease.Den, .int .i64 y20.Canopy.Frame.Rod, .int .i64 y20.Canopy.Frame.Case, vout_325, y20_v2, y20_v3, y20_v4, .int .i64 y20.Wrong].toArray 90), (b1, .cells [r_v0, .int .i64 r.Canopy.Frame.Low, .int .i64 r.Canopy.Frame.High, .int .i64 r.Canopy.Frame.Ease.Num, .int .i64 r.Canopy.Frame.Ease.Den, .int .i64 r.Canopy.Frame.Rod, .int .i64 r.Canopy.Frame.Case, r_v7, r_v8, r_v9, r_v10, .int .i64 r.Wrong].toArray 90)] (by rfl) mo_ (by kernel_rfl) (by kernel_rfl) ?_
           intro hQ hE
           refine JA.take 0 (listed' := #[true, false, false, false, false, false, false, false, false, false, false, false, false, false, false, false, false, false]) hQ rfl (by kernel_rfl) (by kernel_rfl) (by kernel_rfl) (by kernel_rfl) (by kernel_rfl) hE (HSub.refl _) (.cons_cons _ (.cons_cons _ (List.nil_sublist _))) ?_
           refine JL.fieldAddr fo_90_0 rfl .none rfl ?_
           refine JA.cont ?_
           refine JA.take 1 (listed' := #[true, true, false, false, false, false, false, false, false, false, false, false, false, false, false, false, false, false]) hQ rfl (by kernel_rfl) (by kernel_rfl) (by kernel_rfl) (by kernel_rfl) (by kernel_rfl) hE (HSub.refl _) (.cons_cons _ (.cons_cons _ (List.nil_sublist _))) ?_
           refine JL.fieldAddr fo_76_1 rfl .none rfl ?_
           refine JA.cont ?_
           refine JA.take 2 (listed' := #[true, true, true, false, false, false, false, false, false, false, false, false, false, false, false, false, false, false]) hQ rfl (by kernel_rfl) (by kernel_rfl) (by kernel_rfl) (by kernel_rfl) (by kernel_rfl) hE (HSub.refl _) (.cons_cons _ (.cons_cons _ (List.nil_sublist _))) ?_
           refine JL.loadOwn 0 az_24 rfl rfl rfl .none rfl ?_
           refine JA.cont ?_
           refine JA.take 3 (listed' := #[true, true, true, true, false, false, false, false, false, false, false, false, false, false, false, false, false, false]) hQ rfl (by kernel_rfl) (by kernel_rfl) (by kernel_rfl) (by kernel_rfl) (by kernel_rfl) hE (HSub.refl _) (.cons_cons _ (.cons_cons _ (List.nil_sublist _))) ?_
           refine JL.move .none rfl ?_
           refine JA.cont ?_
           refine JA.take 4 (listed' := #[true, true, true, true, true, false, false, false, false, false, false, false, false, false, false, false, false, false]) hQ rfl (by kernel_rfl) (by kernel_rfl) (by kernel_rfl) (by kernel_rfl) (by kernel_rfl) hE (HSub.refl _) (.cons_cons _ (.cons_cons _ (List.nil_sublist _))) ?_
           refine JL.move .none rfl ?_
           refine JA.cont ?_
           refine JA.take 5 (listed' := #[true, true, true, true, true, true, false, false, false, false, false, false, false, false, false, false, false, false]) hQ rfl (by kernel_rfl) (by kernel_rfl) (by kernel_rfl) (by kernel_rfl) (by kernel_rfl) hE (HSub.refl _) (.cons_cons _ (.cons_cons _ (List.nil_sublist _))) ?_
           refine JL.indexSL (R := RInt) sl_23 (SL.mono RInt.mono (HSub.trans hs21 (HSub.trans hs28 (HSub.trans hs30 (HSub.trans hs32 (HSub.trans hs34 hs326))))) hy14a_0) rfl hy643 .none rfl ?_
           rintro b723 o724 cs725 hc726 - rfl
           refine JA.cont ?_
           refine JA.take 6 (listed' := #[true, true, true, true, true, true, true, false, false, false, false, false, false, false, false, false, false, false]) hQ rfl (by kernel_rfl) (by kernel_rfl) (by kernel_rfl) (by kernel_rfl) (by kernel_rfl) hE (HSub.refl _) (.cons_cons _ (.cons_cons _ (List.nil_sublist _))) ?_
           refine JL.loadH 0 az_3 rfl hc726 rfl .none rfl ?_
           refine JA.cont ?_
           refine JA.take 7 (listed' := #[true, true, true, true, true, true, true, true, false, false, false, false, false, false, false, false, false, false]) hQ rfl (by kernel_rfl) (by kernel_rfl) (by kernel_rfl) (by kernel_rfl) (by kernel_rfl) hE (HSub.refl _) (.cons_cons _ (.cons_cons _ (List.nil_sublist _))) ?_
           refine JL.fieldAddr fo_90_0 rfl .none rfl ?_
           refine JA.cont ?_
           refine JA.take 8 (listed' := #[true, true, true, true, true, true, true, true, true, false, false, false, false, false, false, false, false, false]) hQ rfl (by kernel_rfl) (by kernel_rfl) (by kernel_rfl) (by kernel_rfl) (by kernel_rfl) hE (HSub.refl _) (.cons_cons _ (.cons_cons _ (List.nil_sublist _))) ?_
           refine JL.fieldAddr fo_76_1 rfl .none rfl ?_
           refine JA.cont ?_
           refine JA.take 9 (listed' := #[true, true, true, true, true, true, true, true, true, true, false, false, false, false, false, false, false, false]) hQ rfl (by kernel_rfl) (by kernel_rfl) (by kernel_rfl) (by kernel_rfl) (by kernel_rfl) hE (HSub.refl _) (.cons_cons _ (.cons_cons _ (List.nil_sublist _))) ?_
           refine JL.loadOwn 1 az_24 rfl rfl rfl .none rfl ?_
           refine JA.cont ?_
           refine JA.take 10 (listed' := #[true, true, true, true, true, true, true, true, true, true, true, false, false, false, false, false, false, false]) hQ rfl (by kernel_rfl) (by kernel_rfl) (by kernel_rfl) (by kernel_rfl) (by kernel_rfl) hE (HSub.refl _) (.cons_cons _ (.cons_cons _ (List.nil_sublist _))) ?_
           refine JL.move .none rfl ?_
           refine JA.cont ?_
           refine JA.take 11 (listed' := #[true, true, true, true, true, true, true, true, true, true, true, true, false, false, false, false, false, false]) hQ rfl (by kernel_rfl) (by kernel_rfl) (by kernel_rfl) (by kernel_rfl) (by kernel_rfl) hE (HSub.refl _) (.cons_cons _ (.cons_cons _ (List.nil_sublist _))) ?_
           refine JL.move .none rfl ?_
           refine JA.cont ?_
           refine JA.take 12 (listed' := #[true, true, true, true, true, true, true, true, true, true, true, true, true, false, false, false, false, false]) hQ rfl (by kernel_rfl) (by kernel_rfl) (by kernel_rfl) (by kernel_rfl) (by kernel_rfl) hE (HSub.refl _) (.cons_cons _ (.cons_cons _ (List.nil_sublist _))) ?_
           refine JL.indexSL (R := RInt) sl_23 (SL.mono RInt.mono (HSub.trans hs21 (HSub.trans hs28 (HSub.trans hs30 (HSub.trans hs32 (HSub.trans hs34 hs326))))) hy14a_0) rfl hy648 .none rfl ?_
           rintro b731 o732 cs733 hc734 - rfl
           refine JA.cont ?_
           refine JA.take 13 (listed' := #[true, true, true, true, true, true, true, true, true, true, true, true, true, true, false, false, false, false]) hQ rfl (by kernel_rfl) (by kernel_rfl) (by kernel_rfl) (by kernel_rfl) (by kernel_rfl) hE (HSub.refl _) (.cons_cons _ (.cons_cons _ (List.nil_sublist _))) ?_
           refine JL.loadH 0 az_3 rfl hc734 rfl .none rfl ?_
           refine JA.cont ?_
           refine JA.take 14 (listed' := #[true, true, true, true, true, true, true, true, true, true, true, true, true, true, true, false, false, false]) hQ rfl (by kernel_rfl) (by kernel_rfl) (by kernel_rfl) (by kernel_rfl) (by kernel_rfl) hE (HSub.refl _) (.cons_cons _ (.cons_cons _ (List.nil_sublist _))) ?_
           refine JL.indexSL (R := R_Span) sl_24 (SL.mono R_Span_mono (HSub.trans hs11 (HSub.trans hs15 (HSub.trans hs21 (HSub.trans hs28 (HSub.trans hs30 (HSub.trans hs32 (HSub.trans hs34 hs326))))))) hr_7) rfl hy653 .none rfl ?_
           rintro b739 o740 cs741 hc742 - rfl
           refine JA.cont ?_
           refine JA.take 15 (listed' := #[true, true, true, true, true, true, true, true, true, true, true, true, true, true, true, true, false, false]) hQ rfl (by kernel_rfl) (by kernel_rfl) (by kernel_rfl) (by kernel_rfl) (by kernel_rfl) hE (HSub.refl _) (.cons_cons _ (.cons_cons _ (List.nil_sublist _))) ?_
           refine JL.loadH 0 az_39 rfl hc742 rfl .none rfl ?_
           refine JA.cont ?_
           refine JA.many [16] (by kernel_rfl) (by simp) (all_one ⟨_, #[true, true, true, true, true, true, true, true, true, true, true, true, true, true, true, true, true, false], rfl, (by kernel_rfl), ?_⟩)
           refine JL.indexG 0 (l := out_325) sl_24 rfl rfl rfl rfl hy658 .none rfl ?_
           intro b743 hb744
           refine JA.after hE (HSub.refl _) (.cons_cons _ (.cons_cons _ (List.nil_sublist _))) ?_
           refine JA.many [17] (by kernel_rfl) (by simp) (all_one ⟨_, #[true, true, true, true, true, true, true, true, true, true, true, true, true, true, true, true, true, true], rfl, (by kernel_rfl), ?_⟩)
           refine JL.storeG (R := R_Span) 0 (i := y643) (l := out_325) (y := y658) (y' := y653) (off := 0) az_39 rfl rfl rfl rfl (one_cons rfl (one_cons rfl one_nil)) rfl hb744 hout_325 rfl hy658 rfl (by rintro cs rfl; rfl) .none ?_
           intro xs745 hch746
           refine JA.sink (by kernel_rfl) ?_
           refine JA.done hQ (by kernel_rfl) ?_
           refine JQ.go (JC.fresh (fun f => f 9 = .pointer (some ⟨b36, 0, none⟩)) rfl ?_)
           rintro f hf9
           refine (JC.norm (i := 9) hf9 ?_)
           refine JC.seq (JC.region (by rfl) ?_)
           intro hQ
           refine JL.loadOwn 0 az_90 rfl rfl rfl .none rfl ?_
           obtain ⟨y749, hy749, hF⟩ := bind_some hF
           refine JL.callLG1 (R := R_Span) 0 rfl R_Span_mono hch746 rfl (fun H747 hs747 hg748 => c_counts_Stood n H747 (Run.mk (Canopy.mk y20.Canopy.Frame (setx out_325 y643 y653) y20.Canopy.Shares) y20.Blows y20.Meters y20.Wrong) y20_v0 (SL.mono R_Section_mono (HSub.trans hs30 (HSub.trans hs32 (HSub.trans hs34 (HSub.trans hs326 hs747)))) hg29) vout_325 hg748 y20_v2 (SL.mono RInt.mono (HSub.trans hs32 (HSub.trans hs34 (HSub.trans hs326 hs747))) hg31) y20_v3 (SL.mono R_Blow_mono (HSub.trans hs34 (HSub.trans hs326 hs747)) hg33) y20_v4 (SL.mono R_Meter_mono (HSub.trans hs326 hs747) hg35) y749 hy749) rfl en_46 .none rfl ?_
           refine JL.move .none rfl ?_
           refine JL.extract rfl rfl .none rfl ?_
           refine JL.extract rfl rfl .none rfl ?_
           refine JL.assign .none rfl ?_
           refine JL.assign .none rfl ?_
           refine JL.done hQ (JQ.go (JC.seq (JC.region (by rfl) ?_)))
           intro hQ
           refine JL.move .none rfl ?_
           refine JL.bin rfl rfl rfl .none rfl ?_
           refine JL.move .none rfl ?_
           refine JL.cut 3 (fun f => f 127 = .bool ((y749.2 == 0) && (y749.1 != 1))) ?_ ?_
           ·intro hJ750
            rcases bcases (y749.2 == 0) with hc751 | hc751
            ·skip
             refine JL.move (.some rfl rfl rfl hc751) rfl ?_
             refine JL.bin rfl rfl rfl (.some rfl rfl rfl hc751) rfl ?_
             refine JL.pick_t (b := (y749.2 == 0)) rfl hc751 .none rfl ?_
             exact hJ750 _ (and_t hc751 rfl)
            ·skip
             refine JL.skip (.bool rfl rfl rfl hc751) rfl ?_
             refine JL.skip (.bool rfl rfl rfl hc751) rfl ?_
             refine JL.pick_f (b := (y749.2 == 0)) rfl hc751 .none rfl ?_
             exact hJ750 _ (and_f hc751 rfl)
           ·rintro f hf127
            refine (JL.norm (i := 127) hf127 ?_)
            refine JL.move .none rfl ?_
            obtain ⟨p753, hp753, hF⟩ := bind_some hF
            refine JL.cut 2 (fun f => f 130 = .bool p753) ?_ ?_
            ·intro hJ754
             rcases ite_some hp753 with ⟨hc755, hF⟩ | ⟨hc755, hF⟩
             ·skip
              obtain ⟨y756, hy756, hF⟩ := bind_some hF
              refine JL.callS (c_top_tested n H326 y756 hy756) rfl en_42 (.some rfl rfl rfl hc755) rfl ?_
              refine JL.pick_t (b := ((y749.2 == 0) && (y749.1 != 1))) rfl hc755 .none rfl ?_
              obtain rfl := Option.some.inj hF
              exact hJ754 _ (rfl)
             ·skip
              refine JL.skip (.bool rfl rfl rfl hc755) rfl ?_
              refine JL.pick_f (b := ((y749.2 == 0) && (y749.1 != 1))) rfl hc755 .none rfl ?_
              obtain rfl := Option.some.inj hF
              exact hJ754 _ (rfl)
            ·rintro f hf130
             refine (JL.norm (i := 130) hf130 ?_)
             refine JL.assign .none rfl ?_
             refine JL.done hQ (JQ.go (JC.ret ?_))
             obtain rfl := Option.some.inj hF
             exact JQ.outS rfl (.tmp .nil) rfl
end Go.Proofs.Yteihdclpiekmaaa
end
