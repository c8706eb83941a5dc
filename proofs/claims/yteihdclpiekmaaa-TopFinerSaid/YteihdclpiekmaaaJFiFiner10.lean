/-
  A part of the proof of FiFiner: the texts FiPca, FiPcb, FiPcc, FiPcd, FiPce, FiPcf, FiPta, FiPra, EngN, FiOpn.
-/
import Derived.Test.YteihdclpiekmaaaJFiFiner9
import Derived.OpenShut
section
namespace Go.Proofs.Yteihdclpiekmaaa
open Go Go.RowKit Go.Dec
set_option linter.unusedVariables false
section
variable {n : Nat} (hn : 100000000 ≤ n)
include hn
theorem p_ContainsBlow (s : List Blow) (f : Blow → Option Bool) (p : Blow → Bool) (hf : ∀ x, x ∈ s → f x = some (p x)) (hs : s.length ≤ 1000) : F_slices_ContainsFunc___api_Blow_api_Blow_ n s f = some (s.any p) := by
  have : ∃ k, F_slices_IndexFunc___api_Blow_api_Blow_ n s f = some k ∧ decide (0 ≤ k) = s.any p := by
    by_cases h : s.any p = true
    · have : ∃ i : Nat, ∃ x, s[i]? = some x ∧ p x = true ∧ ∀ (j : Nat) y, j < i → s[j]? = some y → p y = false := first_of h
      obtain ⟨i, x, h1, h2, h3⟩ := this
      have hil := (List.getElem?_eq_some_iff.1 h1).1
      refine ⟨i, ?_, by rw [h]; simp⟩
      have := loop_run (step := F_slices_IndexFunc___api_Blow_api_Blow__s1 n s f) (fun j => (j : Int)) (r := .inl (i : Int)) i 0 n (fun j _ hj => ?_) ?_ (by omega)
      · unfold F_slices_IndexFunc___api_Blow_api_Blow_
        simp only [Int.natCast_zero] at this
        rw [this]; rfl
      · have hj' : j < s.length := by omega
        have e : s[j]? = some s[j] := List.getElem?_eq_getElem hj'
        simp only [F_slices_IndexFunc___api_Blow_api_Blow__s1, geti_nat, e, Option.bind_some, hf _ (List.getElem_mem hj'), h3 j _ (by omega) e, lt_nat, hj', decide_true, if_true, Bool.false_eq_true, if_false, w64_nat (show j ≤ 4611686018427387904 by omega)]
      · simp only [Nat.zero_add, F_slices_IndexFunc___api_Blow_api_Blow__s1, geti_nat, h1, Option.bind_some, hf _ (List.mem_of_getElem? h1), h2, lt_nat, hil, decide_true, if_true]
    · have hno : ∀ x ∈ s, p x = false := fun x hx => by
        cases hp : p x with
        | false => rfl
        | true => exact absurd (List.any_eq_true.2 ⟨x, hx, hp⟩) h
      refine ⟨-1, ?_, by simp only [Bool.not_eq_true] at h; rw [h]; rfl⟩
      have := loop_all_l (step := F_slices_IndexFunc___api_Blow_api_Blow__s1 n s f) s (fun _ => true) (0 : Int) (n := n) (by omega) (fun i x hx hi => ?_) ?_ (by omega)
      · unfold F_slices_IndexFunc___api_Blow_api_Blow_; rw [this, show (s.all fun _ => true) = true by simp]; rfl
      · simp only [F_slices_IndexFunc___api_Blow_api_Blow__s1, geti_nat, hx, Option.bind_some, hf _ (List.mem_of_getElem? hx), hno _ (List.mem_of_getElem? hx), lt_nat, hi, decide_true, if_true, cond_true, Bool.false_eq_true, if_false, w64_nat (show i ≤ 4611686018427387904 by omega)]
      · simp [F_slices_IndexFunc___api_Blow_api_Blow__s1]
  obtain ⟨k, h1, h2⟩ := this
  simp only [F_slices_ContainsFunc___api_Blow_api_Blow_, h1, Option.bind_some, h2]
theorem p_ContainsMeter (s : List Meter) (f : Meter → Option Bool) (p : Meter → Bool) (hf : ∀ x, x ∈ s → f x = some (p x)) (hs : s.length ≤ 1000) : F_slices_ContainsFunc___api_Meter_api_Meter_ n s f = some (s.any p) := by
  have : ∃ k, F_slices_IndexFunc___api_Meter_api_Meter_ n s f = some k ∧ decide (0 ≤ k) = s.any p := by
    by_cases h : s.any p = true
    · have : ∃ i : Nat, ∃ x, s[i]? = some x ∧ p x = true ∧ ∀ (j : Nat) y, j < i → s[j]? = some y → p y = false := first_of h
      obtain ⟨i, x, h1, h2, h3⟩ := this
      have hil := (List.getElem?_eq_some_iff.1 h1).1
      refine ⟨i, ?_, by rw [h]; simp⟩
      have := loop_run (step := F_slices_IndexFunc___api_Meter_api_Meter__s1 n s f) (fun j => (j : Int)) (r := .inl (i : Int)) i 0 n (fun j _ hj => ?_) ?_ (by omega)
      · unfold F_slices_IndexFunc___api_Meter_api_Meter_
        simp only [Int.natCast_zero] at this
        rw [this]; rfl
      · have hj' : j < s.length := by omega
        have e : s[j]? = some s[j] := List.getElem?_eq_getElem hj'
        simp only [F_slices_IndexFunc___api_Meter_api_Meter__s1, geti_nat, e, Option.bind_some, hf _ (List.getElem_mem hj'), h3 j _ (by omega) e, lt_nat, hj', decide_true, if_true, Bool.false_eq_true, if_false, w64_nat (show j ≤ 4611686018427387904 by omega)]
      · simp only [Nat.zero_add, F_slices_IndexFunc___api_Meter_api_Meter__s1, geti_nat, h1, Option.bind_some, hf _ (List.mem_of_getElem? h1), h2, lt_nat, hil, decide_true, if_true]
    · have hno : ∀ x ∈ s, p x = false := fun x hx => by
        cases hp : p x with
        | false => rfl
        | true => exact absurd (List.any_eq_true.2 ⟨x, hx, hp⟩) h
      refine ⟨-1, ?_, by simp only [Bool.not_eq_true] at h; rw [h]; rfl⟩
      have := loop_all_l (step := F_slices_IndexFunc___api_Meter_api_Meter__s1 n s f) s (fun _ => true) (0 : Int) (n := n) (by omega) (fun i x hx hi => ?_) ?_ (by omega)
      · unfold F_slices_IndexFunc___api_Meter_api_Meter_; rw [this, show (s.all fun _ => true) = true by simp]; rfl
      · simp only [F_slices_IndexFunc___api_Meter_api_Meter__s1, geti_nat, hx, Option.bind_some, hf _ (List.mem_of_getElem? hx), hno _ (List.mem_of_getElem? hx), lt_nat, hi, decide_true, if_true, cond_true, Bool.false_eq_true, if_false, w64_nat (show i ≤ 4611686018427387904 by omega)]
      · simp [F_slices_IndexFunc___api_Meter_api_Meter__s1]
  obtain ⟨k, h1, h2⟩ := this
  simp only [F_slices_ContainsFunc___api_Meter_api_Meter_, h1, Option.bind_some, h2]
end
def okBlow (d : Canopy) (b : Blow) : Bool := wi b.At 0 ((d.Ribs.length : Int) - 1) && wi b.Force.Low 0 b.Force.High && decide (b.Force.High ≤ 99) && decide (w64 (b.Force.High - b.Force.Low) ≤ 9)
def okMeter (m : Meter) : Bool := wi m.Limit 0 99 && wi m.Count 0 8
def okR (r : Run) : Bool := okD r.Canopy && decide (r.Blows.length ≤ 8) && decide (r.Meters.length ≤ 5) && r.Blows.all (okBlow r.Canopy) && r.Meters.all okMeter && wi r.Wrong 0 5
def checkR (r : Run) : Int := if okR r = true then 0 else 130
structure BlOk (d : Canopy) (b : Blow) : Prop where
  at_ : 0 ≤ b.At ∧ b.At < d.Ribs.length
  lo : 0 ≤ b.Force.Low
  le : b.Force.Low ≤ b.Force.High
  hi : b.Force.High ≤ 99
  gap : b.Force.High - b.Force.Low ≤ 9
structure ROk (r : Run) : Prop where
  d : DOk r.Canopy
  nb : r.Blows.length ≤ 8
  nm : r.Meters.length ≤ 5
  b : ∀ b ∈ r.Blows, BlOk r.Canopy b
  m : ∀ m ∈ r.Meters, (0 ≤ m.Limit ∧ m.Limit ≤ 99) ∧ 0 ≤ m.Count ∧ m.Count ≤ 8
  w : 0 ≤ r.Wrong ∧ r.Wrong ≤ 5
theorem okBlow_iff {d : Canopy} {b : Blow} : okBlow d b = true ↔ BlOk d b := by
  simp only [okBlow, Bool.and_eq_true, wi_t, decide_eq_true_eq]
  constructor
  · rintro ⟨⟨⟨h1, h2⟩, h3⟩, h4⟩
    rw [w64_id (by omega) (by omega)] at h4
    exact ⟨by omega, by omega, by omega, h3, h4⟩
  · rintro ⟨h1, h2, h3, h4, h5⟩
    rw [w64_id (by omega) (by omega)]
    exact ⟨⟨⟨by omega, by omega⟩, h4⟩, h5⟩
theorem okR_iff {r : Run} : okR r = true ↔ ROk r := by
  simp only [okR, Bool.and_eq_true, okD_iff, wi_t, List.all_eq_true, okBlow_iff, okMeter, decide_eq_true_eq]
  constructor
  · rintro ⟨⟨⟨⟨⟨h1, h2⟩, h3⟩, h4⟩, h5⟩, h6⟩
    exact ⟨h1, h2, h3, h4, h5, h6⟩
  · rintro ⟨h1, h2, h3, h4, h5, h6⟩
    exact ⟨⟨⟨⟨⟨h1, h2⟩, h3⟩, h4⟩, h5⟩, h6⟩
theorem checkR_ok {r : Run} : checkR r = 0 ↔ ROk r := by
  unfold checkR
  rw [← okR_iff]
  by_cases h : okR r = true <;> simp [h]
def SmallR (r : Run) : Prop := Small r.Canopy ∧ r.Blows.length ≤ 1000 ∧ r.Meters.length ≤ 1000
theorem ROk.small {r : Run} (h : ROk r) : SmallR r := ⟨h.d.small, by have := h.nb; omega, by have := h.nm; omega⟩
section
variable {n : Nat} (hn : 100000000 ≤ n)
include hn
omit hn in
theorem p_cwithin (n : Nat) (a b c : Int) : F_counts_within n a b c = some (wi a b c) := rfl
theorem p_CheckC {r : Run} (hs : SmallR r) : F_counts_Check n r = some (checkR r) := by
  have c1 := p_ContainsBlow hn r.Blows (fun a0_ => F_counts_Check_1 n a0_ r) (fun b => !okBlow r.Canopy b) (fun b _ => by
    simp only [F_counts_Check_1, p_cwithin, Option.bind_some, or_br, okBlow, Bool.not_and]
    rw [w64_id (by have := hs.1.2.1; omega) (by have := hs.1.2.1; omega)]
    have e1 : decide (99 < b.Force.High) = !decide (b.Force.High ≤ 99) := by rw [← decide_not]; congr 1; simp
    have e2 : decide (9 < w64 (b.Force.High - b.Force.Low)) = !decide (w64 (b.Force.High - b.Force.Low) ≤ 9) := by rw [← decide_not]; congr 1; simp
    rw [e1, e2]) hs.2.1
  have c2 := p_ContainsMeter hn r.Meters (fun a0_ => F_counts_Check_2 n a0_) (fun m => !okMeter m) (fun m _ => by
    simp only [F_counts_Check_2, p_cwithin, Option.bind_some, or_br, okMeter, Bool.not_and]) hs.2.2
  have e1 : (r.Blows.any fun b => !okBlow r.Canopy b) = !r.Blows.all (okBlow r.Canopy) := by simp [List.any_eq_not_all_not]
  have e2 : (r.Meters.any fun m => !okMeter m) = !r.Meters.all okMeter := by simp [List.any_eq_not_all_not]
  have e3 : ((if okD r.Canopy = true then (0 : Int) else 50) != 0) = !okD r.Canopy := by cases okD r.Canopy <;> rfl
  have e4 : decide (8 < (r.Blows.length : Int)) = !decide (r.Blows.length ≤ 8) := by rw [← decide_not]; congr 1; simp; omega
  have e5 : decide (5 < (r.Meters.length : Int)) = !decide (r.Meters.length ≤ 5) := by rw [← decide_not]; congr 1; simp; omega
  simp only [F_counts_Check, p_gCheck hn hs.1, Option.bind_some, e3, e4, e5, c1, c2, e1, e2, p_cwithin, or_br]
  have e : (((((!okD r.Canopy || !decide (r.Blows.length ≤ 8)) || !decide (r.Meters.length ≤ 5)) || !r.Blows.all (okBlow r.Canopy)) || !r.Meters.all okMeter) || !wi r.Wrong 0 5) = !okR r := by
    simp only [okR, Bool.not_and]
  rw [e, checkR]
  cases okR r <;> rfl
theorem p_IsRib05 (d : Canopy) (i : Int) (hs : d.Ribs.length ≤ 1000) : F_ref05_IsRib n d i = some (wi i 0 ((d.Ribs.length : Int) - 1)) := by
  have _hn := hn
  simp only [F_ref05_IsRib, p_within05, Option.bind_some]
  rw [w64_id (by omega) (by omega)]
omit hn in
theorem p_within13 (n : Nat) (a b c : Int) : F_ref13_within n a b c = some (wi a b c) := rfl
theorem p_Check13 {r : Run} (hs : SmallR r) : F_ref13_Check n r = some (checkR r) := by
  have e3 : ((if okD r.Canopy = true then (0 : Int) else 50) != 0) = !okD r.Canopy := by cases okD r.Canopy <;> rfl
  have e4 : decide (8 < (r.Blows.length : Int)) = !decide (r.Blows.length ≤ 8) := by rw [← decide_not]; congr 1; simp; omega
  have e5 : decide (5 < (r.Meters.length : Int)) = !decide (r.Meters.length ≤ 5) := by rw [← decide_not]; congr 1; simp; omega
  have l1 := loop_all_l (step := F_ref13_Check_s1 n r) r.Blows (okBlow r.Canopy) (130 : Int) (n := n) (by have := hs.2.1; omega) (fun i x hx hi => by
    simp only [F_ref13_Check_s1, lt_nat, hi, decide_true, if_true, geti_nat, hx, Option.bind_some, p_IsRib05 hn _ _ hs.1.2.1, p_within13, or_br]
    have e6 : decide (99 < x.Force.High) = !decide (x.Force.High ≤ 99) := by rw [← decide_not]; congr 1; simp
    have e7 : decide (9 < w64 (x.Force.High - x.Force.Low)) = !decide (w64 (x.Force.High - x.Force.Low) ≤ 9) := by rw [← decide_not]; congr 1; simp
    rw [e6, e7, w64_nat (show i ≤ 4611686018427387904 by have := hs.2.1; omega)]
    have e : (((!wi x.At 0 ((r.Canopy.Ribs.length : Int) - 1) || !wi x.Force.Low 0 x.Force.High) || !decide (x.Force.High ≤ 99)) || !decide (w64 (x.Force.High - x.Force.Low) ≤ 9)) = !okBlow r.Canopy x := by simp only [okBlow, Bool.not_and]
    rw [e]
    cases okBlow r.Canopy x <;> rfl) (by simp [F_ref13_Check_s1]) (by have := hs.2.1; omega)
  have l2 := loop_all_l (step := F_ref13_Check_s2 n r) r.Meters okMeter (130 : Int) (n := n) (by have := hs.2.2; omega) (fun i x hx hi => by
    simp only [F_ref13_Check_s2, lt_nat, hi, decide_true, if_true, geti_nat, hx, Option.bind_some, p_within13, or_br]
    rw [w64_nat (show i ≤ 4611686018427387904 by have := hs.2.2; omega)]
    have e : (!wi x.Limit 0 99 || !wi x.Count 0 8) = !okMeter x := by simp only [okMeter, Bool.not_and]
    rw [e]
    cases okMeter x <;> rfl) (by simp [F_ref13_Check_s2]) (by have := hs.2.2; omega)
  simp only [F_ref13_Check, p_Check05 hn hs.1, Option.bind_some, e3, e4, e5, p_within13, or_br, l1, l2]
  unfold checkR okR
  cases okD r.Canopy <;> cases decide (r.Blows.length ≤ 8) <;> cases decide (r.Meters.length ≤ 5) <;> cases r.Blows.all (okBlow r.Canopy) <;> cases r.Meters.all okMeter <;> cases wi r.Wrong 0 5 <;> rfl
end
/-- the forces of some blows, one for each -/
def casesS : List Blow → List (List Int)
  | [] => [[]]
  | b :: bl => (span b.Force.Low b.Force.High).flatMap fun f => (casesS bl).map fun c => f :: c
theorem casesS_len : ∀ {bl : List Blow} {c : List Int}, c ∈ casesS bl → c.length = bl.length
  | [], c, h => by simp [casesS] at h; subst h; rfl
  | b :: bl, c, h => by
    simp only [casesS, List.mem_flatMap, List.mem_map] at h
    obtain ⟨f, _, c', h2, rfl⟩ := h
    simp [casesS_len h2]
/-- does a meter count a force? -/
def mtr (ms : List Meter) (f : Int) (j : Nat) : Int := match ms[j]? with | some m => if m.Limit ≤ f then 1 else 0 | none => 0
theorem mtr_some {ms : List Meter} {f : Int} {j : Nat} {m : Meter} (h : ms[j]? = some m) : mtr ms f j = if m.Limit ≤ f then 1 else 0 := by simp [mtr, h]
theorem mtr_none {ms : List Meter} {f : Int} {j : Nat} (h : ms.length ≤ j) : mtr ms f j = 0 := by simp [mtr, List.getElem?_eq_none h]
theorem mtr_in (ms : List Meter) (f : Int) (j : Nat) : mtr ms f j = 0 ∨ mtr ms f j = 1 := by
  unfold mtr
  cases ms[j]? with
  | none => exact .inl rfl
  | some m => simp only; split <;> simp
/-- one more force to all readings -/
def addS (ms : List Meter) (a : Blow → Int → Bool) (x : List Int) (b : Blow) (f : Int) : List Int :=
  (List.range 6).map fun j => x.getD j 0 + (if j = 5 then (if a b f = true then 1 else 0) else mtr ms f j)
/-- all readings behind some blows -/
def rdsF (ms : List Meter) (a : Blow → Int → Bool) (bl : List Blow) (L : List (List Int)) : List (List Int) :=
  bl.foldl (fun L b => L.flatMap fun x => (span b.Force.Low b.Force.High).map fun f => addS ms a x b f) L
def zeroX : List Int := [0, 0, 0, 0, 0, 0]
/-- what a case is read as -/
def readS (ms : List Meter) (a : Blow → Int → Bool) : List Blow → List Int → List Int → List Int
  | b :: bl, f :: c, x => readS ms a bl c (addS ms a x b f)
  | _, _, x => x
theorem rdsF_cases (ms : List Meter) (a : Blow → Int → Bool) : ∀ (bl : List Blow) (L : List (List Int)), rdsF ms a bl L = L.flatMap fun x => (casesS bl).map fun c => readS ms a bl c x
  | [], L => by simp [rdsF, casesS, readS]
  | b :: bl, L => by
    show rdsF ms a bl (L.flatMap fun x => (span b.Force.Low b.Force.High).map fun f => addS ms a x b f) = _
    rw [rdsF_cases ms a bl, List.flatMap_assoc]
    congr 1
    funext x
    rw [List.flatMap_map, casesS, List.map_flatMap]
    congr 1
    funext f
    rw [List.map_map]
    rfl
end Go.Proofs.Yteihdclpiekmaaa
end
section
namespace Go.Proofs.Yteihdclpiekmaaa
open Go Go.RowKit Go.Dec
set_option linter.unusedVariables false
theorem flatMap_two {α β : Type} (f g : α → List β) : ∀ l : List α, (l.flatMap fun x => f x ++ g x).Perm (l.flatMap f ++ l.flatMap g)
  | [] => by simp
  | a :: l => by
    simp only [List.flatMap_cons]
    have ih := flatMap_two f g l
    have h1 : (f a ++ g a ++ l.flatMap fun x => f x ++ g x).Perm (f a ++ g a ++ (l.flatMap f ++ l.flatMap g)) := ih.append_left _
    refine h1.trans ?_
    rw [List.append_assoc, List.append_assoc]
    refine List.Perm.append_left _ ?_
    rw [← List.append_assoc, ← List.append_assoc]
    exact List.Perm.append_right _ List.perm_append_comm
theorem flatMap_rep {α β : Type} (g : α → β → List Int) (x : α) (c : Nat) : ∀ S : List β, (S.flatMap fun f => List.replicate c (g x f)).Perm ((List.replicate c x).flatMap fun x => S.map (g x))
  | [] => by
    have : ∀ c : Nat, ((List.replicate c x).flatMap fun x => ([] : List (List Int))) = [] := fun c => by induction c <;> simp_all
    simp
  | f :: S => by
    simp only [List.flatMap_cons, List.map_cons]
    have h1 := flatMap_two (fun x => [g x f]) (fun x => S.map (g x)) (List.replicate c x)
    have e : ∀ c : Nat, ((List.replicate c x).flatMap fun x => [g x f]) = List.replicate c (g x f) := fun c => by
      induction c with
      | zero => rfl
      | succ c ih => rw [List.replicate_succ, List.flatMap_cons, ih]; rfl
    rw [e] at h1
    exact ((flatMap_rep g x c S).append_left _).trans h1.symm
theorem flatMap_pw {α β : Type} {f g : α → List β} : ∀ l : List α, (∀ x ∈ l, (f x).Perm (g x)) → (l.flatMap f).Perm (l.flatMap g)
  | [], _ => by simp
  | a :: l, h => by
    simp only [List.flatMap_cons]
    exact (h a (List.mem_cons_self ..)).append (flatMap_pw l fun x hx => h x (List.mem_cons_of_mem _ hx))
theorem flatMap_of {α β : Type} {f : α → List β} {l m : List α} (h : l.Perm m) : (l.flatMap f).Perm (m.flatMap f) := by
  induction h with
  | nil => simp
  | cons x _ ih => simp only [List.flatMap_cons]; exact ih.append_left _
  | swap x y l => simp only [List.flatMap_cons]; rw [← List.append_assoc, ← List.append_assoc]; exact List.Perm.append_right _ List.perm_append_comm
  | trans _ _ ih1 ih2 => exact ih1.trans ih2
theorem mput_mput {m : Mp} (h : Srt m) (k : List Int) (u v : Int) : mput (mput m k u) k v = mput m k v := srt_ext (srt_mput (srt_mput h)) (srt_mput h) fun p => by
  rw [mem_mput (srt_mput h), mem_mput h, mem_mput h]
  constructor
  · rintro (h1 | ⟨h1 | h1, h2⟩)
    · exact .inl h1
    · rw [h1] at h2; exact absurd rfl h2
    · exact .inr h1
  · rintro (h1 | h1)
    · exact .inl h1
    · exact .inr ⟨.inr h1, h1.2⟩
def VOk (k : Nat) (x : List Int) : Prop := x.length = 6 ∧ ∀ j, 0 ≤ x.getD j 0 ∧ x.getD j 0 ≤ k
theorem VOk.kok {k : Nat} {x : List Int} (h : VOk k x) (hk : k ≤ 1000) : kok 6 x = some () := kok_ok ⟨h.1, fun y hy => by
  obtain ⟨i, hi, rfl⟩ := List.getElem_of_mem hy
  have := h.2 i
  rw [List.getD_eq_getElem?_getD, List.getElem?_eq_getElem hi] at this
  simp only [Option.getD_some] at this
  omega⟩
theorem xok_zero : VOk 0 zeroX := ⟨rfl, fun j => by
  match j with
  | 0 | 1 | 2 | 3 | 4 | 5 => simp [zeroX]
  | j + 6 => simp [zeroX]⟩
theorem range_getD {g : Nat → Int} {N j : Nat} : ((List.range N).map g).getD j 0 = if j < N then g j else 0 := by
  rw [List.getD_eq_getElem?_getD, List.getElem?_map]
  by_cases h : j < N
  · rw [List.getElem?_range h, if_pos h]; rfl
  · rw [List.getElem?_eq_none (by simpa using h), if_neg h]; rfl
theorem xok_add {ms : List Meter} {a : Blow → Int → Bool} {k : Nat} {x : List Int} (h : VOk k x) (b : Blow) (f : Int) : VOk (k + 1) (addS ms a x b f) := by
  refine ⟨by simp [addS], fun j => ?_⟩
  unfold addS
  rw [range_getD]
  have := h.2 j
  by_cases hj : j < 6
  · rw [if_pos hj]
    by_cases h5 : j = 5
    · rw [if_pos h5]
      cases a b f
      · rw [if_neg (by simp)]; omega
      · rw [if_pos rfl]; omega
    · rw [if_neg h5]
      have := mtr_in ms f j; omega
  · rw [if_neg hj]; omega
theorem xok_rds {ms : List Meter} {a : Blow → Int → Bool} : ∀ (bl : List Blow) (k : Nat) (L : List (List Int)), (∀ x ∈ L, VOk k x) → ∀ x ∈ rdsF ms a bl L, VOk (k + bl.length) x
  | [], k, L, h => by simpa [rdsF] using h
  | b :: bl, k, L, h => by
    intro x hx
    have := xok_rds bl (k + 1) (L.flatMap fun x => (span b.Force.Low b.Force.High).map fun f => addS ms a x b f) (fun y hy => by
      obtain ⟨z, hz, hy⟩ := List.mem_flatMap.1 hy
      obtain ⟨f, _, rfl⟩ := List.mem_map.1 hy
      exact xok_add (h z hz) b f) x hx
    rw [List.length_cons, show k + (bl.length + 1) = k + 1 + bl.length by omega]
    exact this
theorem xok_of {ms : List Meter} {a : Blow → Int → Bool} {bl : List Blow} (h : bl.length ≤ 8) : ∀ x ∈ rdsF ms a bl [zeroX], VOk 8 x := fun x hx => by
  have := xok_rds bl 0 [zeroX] (fun y hy => by rw [List.mem_singleton.1 hy]; exact xok_zero) x hx
  exact ⟨this.1, fun j => by have := this.2 j; omega⟩
theorem flatMap_len {α β : Type} {f : α → List β} {c : Nat} : ∀ {l : List α}, (∀ x ∈ l, (f x).length ≤ c) → (l.flatMap f).length ≤ l.length * c
  | [], _ => by simp
  | a :: l, h => by
    have h1 := h a (List.mem_cons_self ..)
    have h2 := flatMap_len (l := l) fun x hx => h x (List.mem_cons_of_mem _ hx)
    simp only [List.flatMap_cons, List.length_append, List.length_cons, Nat.succ_mul]
    omega
theorem rds_len {d : Canopy} {ms : List Meter} {a : Blow → Int → Bool} : ∀ (bl : List Blow) (L : List (List Int)), (∀ b ∈ bl, BlOk d b) → (rdsF ms a bl L).length ≤ L.length * 10 ^ bl.length
  | [], L, _ => by simp [rdsF]
  | b :: bl, L, h => by
    have h1 := rds_len (ms := ms) (a := a) bl (L.flatMap fun x => (span b.Force.Low b.Force.High).map fun f => addS ms a x b f) fun y hy => h y (List.mem_cons_of_mem _ hy)
    have hb := h b (List.mem_cons_self ..)
    have h2 : (L.flatMap fun x => (span b.Force.Low b.Force.High).map fun f => addS ms a x b f).length ≤ L.length * 10 := flatMap_len fun x _ => by
      rw [List.length_map, span_len]
      have := hb.gap; omega
    have h3 := Nat.mul_le_mul_right (10 ^ bl.length) h2
    rw [List.length_cons, Nat.pow_succ]
    calc _ ≤ _ := h1
      _ ≤ L.length * 10 * 10 ^ bl.length := h3
      _ = L.length * (10 ^ bl.length * 10) := by rw [Nat.mul_assoc, Nat.mul_comm 10]
theorem sum_nonneg {l : Mp} (h : ∀ z ∈ l, 0 < z.2) : 0 ≤ (l.map (·.2)).sum := by
  induction l with
  | nil => simp
  | cons z l ih =>
    have := h z (List.mem_cons_self ..)
    have := ih fun y hy => h y (List.mem_cons_of_mem _ hy)
    simp only [List.map_cons, List.sum_cons]; omega
theorem sum_perm {l m : Mp} (h : l.Perm m) : (l.map (·.2)).sum = (m.map (·.2)).sum := by
  induction h with
  | nil => rfl
  | cons x _ ih => simp only [List.map_cons, List.sum_cons, ih]
  | swap x y l => simp only [List.map_cons, List.sum_cons]; omega
  | trans _ _ ih1 ih2 => exact ih1.trans ih2
theorem len_rep {S : List Int} {g : List Int × Int → Int → List Int} (hS : S.length ≤ 10) {l : Mp} (h : ∀ z ∈ l, 0 < z.2) : ((l.flatMap fun p => S.flatMap fun f => List.replicate p.2.toNat (g p f)).length : Int) ≤ 10 * (l.map (·.2)).sum := by
  induction l with
  | nil => simp
  | cons z l ih =>
    have hz := h z (List.mem_cons_self ..)
    have h1 := ih fun y hy => h y (List.mem_cons_of_mem _ hy)
    have h2 : (S.flatMap fun f => List.replicate z.2.toNat (g z f)).length ≤ S.length * z.2.toNat := flatMap_len fun f _ => by simp
    have h3 := Nat.mul_le_mul_right z.2.toNat hS
    simp only [List.flatMap_cons, List.length_append, List.map_cons, List.sum_cons]
    omega
theorem setx_range {N i : Nat} {g : Nat → Int} (y : Int) : setx ((List.range N).map g) (i : Int) y = (List.range N).map fun j => if j = i then y else g j := by
  apply List.ext_getElem?
  intro j
  unfold setx
  simp only [Int.toNat_natCast, List.getElem?_set, List.getElem?_map, List.length_map, List.length_range]
  by_cases h : j < N
  · rw [List.getElem?_range h]
    by_cases e : i = j
    · subst e; simp [h]
    · simp [e, Ne.symm e]
  · rw [List.getElem?_eq_none (by simpa using h)]
    by_cases e : i = j
    · subst e; simp [h]
    · simp [e]
theorem geti_range {N i : Nat} {g : Nat → Int} (h : i < N) : geti ((List.range N).map g) (i : Int) = some (g i) := by
  rw [geti_nat, List.getElem?_map, List.getElem?_range h]; rfl
/-- the first i meters have read -/
def addP (ms : List Meter) (x : List Int) (f : Int) (i : Nat) : List Int := (List.range 6).map fun j => x.getD j 0 + (if j < i then mtr ms f j else 0)
theorem addP_zero {ms : List Meter} {x : List Int} {f : Int} (h : x.length = 6) : addP ms x f 0 = x := by
  apply List.ext_getElem?
  intro j
  unfold addP
  by_cases hj : j < 6
  · rw [List.getElem?_map, List.getElem?_range hj, List.getElem?_eq_getElem (by omega)]
    simp [List.getD_eq_getElem?_getD, List.getElem?_eq_getElem (show j < x.length by omega)]
  · rw [List.getElem?_eq_none (by simpa using hj), List.getElem?_eq_none (by omega)]
section
variable {n : Nat} (hn : 100000000 ≤ n)
include hn
theorem p_add {r : Run} {asked : Blow → Int → Option Bool} {a : Blow → Int → Bool} (hm : r.Meters.length ≤ 5) {k : Nat} (hk : k ≤ 1000) {x : List Int} (hx : VOk k x) {b : Blow} {f : Int} (ha : asked b f = some (a b f)) :
    F_counts_test_add n ⟨r, asked⟩ x b f = some (addS r.Meters a x b f) := by
  have hl := loop_run (step := F_counts_test_add_s1 n ⟨r, asked⟩ f) (fun i => ((i : Int), addP r.Meters x f i)) (r := addP r.Meters x f r.Meters.length) r.Meters.length 0 n (fun i _ hi => by
    have hi : i < r.Meters.length := by omega
    have e : r.Meters[i]? = some r.Meters[i] := List.getElem?_eq_getElem hi
    simp only [F_counts_test_add_s1, lt_nat, hi, decide_true, if_true, geti_nat, e, Option.bind_some]
    have hx2 := hx.2 i
    by_cases h : r.Meters[i].Limit ≤ f
    · simp only [h, decide_true, if_true]
      have hg : (addP r.Meters x f i)[i]? = some (x.getD i 0 + 0) := by
        unfold addP
        rw [List.getElem?_map, List.getElem?_range (by omega)]
        simp
      rw [hg]
      simp only [Option.bind_some, w64_nat (show i ≤ 4611686018427387904 by omega)]
      rw [w64_id (by omega) (by omega)]
      congr 3
      unfold addP
      rw [setx_range]
      apply List.map_congr_left
      intro j _
      by_cases e1 : j = i
      · subst e1; rw [if_pos rfl, if_pos (by omega), mtr_some e, if_pos h]; omega
      · rw [if_neg e1]
        by_cases e2 : j < i
        · rw [if_pos e2, if_pos (by omega)]
        · rw [if_neg e2, if_neg (by omega)]
    · simp only [h, decide_false, Bool.false_eq_true, if_false, Option.bind_some, w64_nat (show i ≤ 4611686018427387904 by omega)]
      congr 3
      unfold addP
      apply List.map_congr_left
      intro j _
      by_cases e1 : j = i
      · subst e1; rw [if_neg (by omega), if_pos (by omega), mtr_some e, if_neg h]
      · by_cases e2 : j < i
        · rw [if_pos e2, if_pos (by omega)]
        · rw [if_neg e2, if_neg (by omega)]) (by simp [F_counts_test_add_s1]) (by omega)
  simp only [Int.natCast_zero, Nat.zero_add] at hl
  rw [addP_zero hx.1] at hl
  simp only [F_counts_test_add, hl, Option.bind_some, ha]
  have e5 : geti (addP r.Meters x f r.Meters.length) 5 = some (x.getD 5 0) := by
    have := geti_range (g := fun j => x.getD j 0 + (if j < r.Meters.length then mtr r.Meters f j else 0)) (show 5 < 6 by omega)
    rw [if_neg (by omega), Int.add_zero] at this
    exact this
  have hx5 := hx.2 5
  have last : ∀ v : Int, setx (addP r.Meters x f r.Meters.length) 5 v = (List.range 6).map fun j => if j = 5 then v else x.getD j 0 + mtr r.Meters f j := fun v => by
    have := setx_range (N := 6) (i := 5) (g := fun j => x.getD j 0 + (if j < r.Meters.length then mtr r.Meters f j else 0)) v
    unfold addP
    rw [show ((5 : Nat) : Int) = 5 from rfl] at this
    rw [this]
    apply List.map_congr_left
    intro j _
    by_cases e1 : j = 5
    · rw [if_pos e1, if_pos e1]
    · rw [if_neg e1, if_neg e1]
      by_cases e2 : j < r.Meters.length
      · rw [if_pos e2]
      · rw [if_neg e2, mtr_none (by omega)]
  cases h : a b f with
  | true =>
    simp only [if_true, e5, Option.bind_some]
    rw [w64_id (by omega) (by omega), last]
    congr 1
    unfold addS
    apply List.map_congr_left
    intro j _
    by_cases e1 : j = 5
    · rw [if_pos e1, if_pos e1, e1, h]; simp
    · rw [if_neg e1, if_neg e1]
  | false =>
    simp only [Bool.false_eq_true, if_false, Option.bind_some]
    congr 1
    unfold addS addP
    apply List.map_congr_left
    intro j _
    by_cases e1 : j = 5
    · rw [if_pos e1, if_neg (by omega), h]; simp
    · rw [if_neg e1]
      by_cases e2 : j < r.Meters.length
      · rw [if_pos e2]
      · rw [if_neg e2, mtr_none (by omega)]
theorem p_force {r : Run} {asked : Blow → Int → Option Bool} {a : Blow → Int → Bool} (hm : r.Meters.length ≤ 5) {k : Nat} (hk : k ≤ 100) {x : List Int} (hx : VOk k x) {b : Blow} {v : Int} (hv : 0 < v) {hi : Int} (hhi : b.Force.High = hi) (hhi2 : hi ≤ 99) :
    ∀ (c : Nat) (lo : Int) (L : List (List Int)) (m : Mp) (fuel : Nat), (hi + 1 - lo).toNat = c → 0 ≤ lo → (∀ f, lo ≤ f → f ≤ hi → asked b f = some (a b f)) → RM L m → (L.length : Int) + v * (c + 1) ≤ 1000000000000 → c < fuel →
      ∃ m', loopO fuel (F_counts_test_readings_s3 n ⟨r, asked⟩ b v x) (lo, m) = some m' ∧ RM (L ++ (span lo hi).flatMap fun f => List.replicate v.toNat (addS r.Meters a x b f)) m' := by
  intro c
  induction c with
  | zero =>
    intro lo L m fuel hc h0 ha hL hb hf
    refine ⟨m, ?_, ?_⟩
    · refine loop_done ?_ hf
      simp only [F_counts_test_readings_s3]
      rw [show decide (lo ≤ b.Force.High) = false by rw [hhi]; exact decide_eq_false (by omega)]
      rfl
    · rw [span_nil (by omega)]; simpa using hL
  | succ c ih =>
    intro lo L m fuel hc h0 ha hL hb hf
    obtain ⟨fuel, rfl⟩ : ∃ k, fuel = k + 1 := ⟨fuel - 1, by omega⟩
    have hle : lo ≤ hi := by omega
    have hadd := p_add hn hm (by omega) hx (ha lo (Int.le_refl _) hle)
    have hkk := (xok_add (ms := r.Meters) (a := a) hx b lo).kok (by omega)
    have hget := hL.get (addS r.Meters a x b lo)
    have hcount := List.count_le_length (a := addS r.Meters a x b lo) (l := L)
    have hmul : v * ((c : Int) + 1 + 1) = v * ((c : Int) + 1) + v := by rw [Int.mul_add v _ 1, Int.mul_one]
    have hmul2 : 0 ≤ v * ((c : Int) + 1) := Int.mul_nonneg (by omega) (by omega)
    have hb' : (L.length : Int) + v * ((c : Int) + 1) + v ≤ 1000000000000 := by
      have : (((c + 1 : Nat) : Int) + 1) = (c : Int) + 1 + 1 := by omega
      rw [this, hmul] at hb; omega
    have hstep : F_counts_test_readings_s3 n ⟨r, asked⟩ b v x (lo, m) = some (.inl (lo + 1, mput m (addS r.Meters a x b lo) (mget m (addS r.Meters a x b lo) + v))) := by
      simp only [F_counts_test_readings_s3]
      rw [show decide (lo ≤ b.Force.High) = true by rw [hhi]; exact decide_eq_true hle]
      simp only [if_true, hadd, Option.bind_some, hkk]
      rw [w64_id (by omega) (by omega), w64_id (by omega) (by omega), mput_mput hL.srt]
    obtain ⟨m', h1, h2⟩ := ih (lo + 1) (L ++ List.replicate v.toNat (addS r.Meters a x b lo)) _ fuel (by omega) (by omega) (fun f h1 h2 => ha f (by omega) h2) (hL.add _ hv) (by
      rw [List.length_append, List.length_replicate]; omega) (by omega)
    refine ⟨m', by rw [loopO_succ, hstep]; exact h1, ?_⟩
    rw [span_cons hle, List.flatMap_cons, ← List.append_assoc]
    exact h2
theorem p_blow {r : Run} {asked : Blow → Int → Option Bool} {a : Blow → Int → Bool} (hr : ROk r) {b : Blow} (hb : b ∈ r.Blows) (ha : ∀ f, b.Force.Low ≤ f → f ≤ b.Force.High → asked b f = some (a b f)) {k : Nat} (hk : k ≤ 100) {L : List (List Int)} (hL : ∀ x ∈ L, VOk k x) (hlen : L.length ≤ 10000000) {M : Mp} (hM : RM L M) :
    permO (F_counts_test_readings_s2 n ⟨r, asked⟩ b) [] M = some (tally (L.flatMap fun x => (span b.Force.Low b.Force.High).map fun f => addS r.Meters a x b f)) := by
  have hbo := hr.b b hb
  have hS : (span b.Force.Low b.Force.High).length ≤ 10 := by rw [span_len]; have := hbo.gap; omega
  refine permO_of fun l hl => ?_
  have key : ∀ (q d : Mp) (m : Mp), (∀ p ∈ q, p ∈ M) → (∀ p ∈ d, p ∈ M) → RM (d.flatMap fun p => (span b.Force.Low b.Force.High).flatMap fun f => List.replicate p.2.toNat (addS r.Meters a p.1 b f)) m → ((d ++ q).map (·.2)).sum ≤ 10000000 →
      ∃ m', foldP (F_counts_test_readings_s2 n ⟨r, asked⟩ b) m q = some m' ∧ RM ((d ++ q).flatMap fun p => (span b.Force.Low b.Force.High).flatMap fun f => List.replicate p.2.toNat (addS r.Meters a p.1 b f)) m' := by
    intro q
    induction q with
    | nil => intro d m _ _ h _; exact ⟨m, rfl, by simpa using h⟩
    | cons p q ih =>
      intro d m hq hd h hs
      have hpM := hq p (List.mem_cons_self ..)
      have hpos := hM.pos p hpM
      have hx := hL p.1 (hM.key.1 ⟨p.2, hpM⟩)
      have hsq := sum_nonneg (l := q) fun z hz => hM.pos z (hq z (List.mem_cons_of_mem _ hz))
      have hsd := sum_nonneg (l := d) fun z hz => hM.pos z (hd z hz)
      have hsum : (d.map (·.2)).sum + (p.2 + (q.map (·.2)).sum) ≤ 10000000 := by
        simpa [List.sum_append] using hs
      have hlen1 := len_rep (g := fun p f => addS r.Meters a p.1 b f) hS (l := d) fun z hz => hM.pos z (hd z hz)
      obtain ⟨m1, h1, h2⟩ := p_force hn hr.nm hk hx hpos rfl hbo.hi _ b.Force.Low _ m n rfl hbo.lo ha h (by
        have hc : (((b.Force.High + 1 - b.Force.Low).toNat : Nat) : Int) + 1 ≤ 11 := by have := hbo.gap; omega
        have := Int.mul_le_mul_of_nonneg_left hc (show 0 ≤ p.2 by omega)
        omega) (by have := hbo.gap; omega)
      have hst : F_counts_test_readings_s2 n ⟨r, asked⟩ b m p = some m1 := by
        cases p
        simp only [F_counts_test_readings_s2, h1, Option.bind_some]
      obtain ⟨m2, h3, h4⟩ := ih (d ++ [p]) m1 (fun z hz => hq z (List.mem_cons_of_mem _ hz)) (fun z hz => by
        rcases List.mem_append.1 hz with hz | hz
        · exact hd z hz
        · rw [List.mem_singleton.1 hz]; exact hpM) (by simpa using h2) (by simpa using hs)
      refine ⟨m2, by rw [foldP, hst]; exact h3, by simpa using h4⟩
  have htot : (l.map (·.2)).sum ≤ 10000000 := by
    rw [sum_perm hl, hM.total]; omega
  obtain ⟨m', h1, h2⟩ := key l [] [] (fun p hp => hl.mem_iff.1 hp) (by simp) (by simpa using RM.nil) (by simpa using htot)
  rw [h1]
  congr 1
  refine (h2.perm' ?_).eq
  rw [List.nil_append]
  refine (flatMap_of hl).trans ?_
  have e : (M.flatMap fun p => (List.replicate p.2.toNat p.1).flatMap fun x => (span b.Force.Low b.Force.High).map fun f => addS r.Meters a x b f) = (expand M).flatMap fun x => (span b.Force.Low b.Force.High).map fun f => addS r.Meters a x b f := by
    unfold expand; rw [List.flatMap_assoc]
  refine (flatMap_pw M fun p _ => flatMap_rep (fun x f => addS r.Meters a x b f) p.1 p.2.toNat (span b.Force.Low b.Force.High)).trans ?_
  rw [e]
  exact flatMap_of hM.perm
/-- all readings of all cases -/
def rds (r : Run) (a : Blow → Int → Bool) : List (List Int) := rdsF r.Meters a r.Blows [zeroX]
theorem p_readings {r : Run} {asked : Blow → Int → Option Bool} {a : Blow → Int → Bool} (hr : ROk r) (ha : ∀ b ∈ r.Blows, ∀ f, b.Force.Low ≤ f → f ≤ b.Force.High → asked b f = some (a b f)) : F_counts_test_readings n ⟨r, asked⟩ = some (tally (rds r a)) := by
  have e0 : mput ([] : Mp) [0, 0, 0, 0, 0, 0] 1 = tally [zeroX] := by
    refine RM.eq ?_
    have := RM.nil.add zeroX (c := 1) (by omega)
    simpa [mget_nil, zeroX] using this
  have hl := loop_run (step := F_counts_test_readings_s1 n ⟨r, asked⟩) (fun i => (tally (rdsF r.Meters a (r.Blows.take i) [zeroX]), (i : Int))) (r := tally (rds r a)) r.Blows.length 0 n (fun i _ hi => by
    have hi : i < r.Blows.length := by omega
    have e : r.Blows[i]? = some r.Blows[i] := List.getElem?_eq_getElem hi
    simp only [F_counts_test_readings_s1, lt_nat, hi, decide_true, if_true, geti_nat, e, Option.bind_some]
    have hsub : ∀ b ∈ r.Blows.take i, b ∈ r.Blows := fun b hb => List.mem_of_mem_take hb
    have hlen := rds_len (d := r.Canopy) (ms := r.Meters) (a := a) (r.Blows.take i) [zeroX] fun b hb => hr.b b (hsub b hb)
    have hnb := hr.nb
    have hp : (10 : Nat) ^ (r.Blows.take i).length ≤ 10 ^ 7 := Nat.pow_le_pow_right (by omega) (by rw [List.length_take]; omega)
    have := p_blow hn hr (List.getElem_mem hi) (ha _ (List.getElem_mem hi)) (k := 8) (by omega) (L := rdsF r.Meters a (r.Blows.take i) [zeroX]) (xok_of (by rw [List.length_take]; omega)) (by
      simp only [List.length_cons, List.length_nil] at hlen; omega) (tally_ok _)
    rw [this]
    simp only [Option.bind_some, w64_nat (show i ≤ 4611686018427387904 by omega)]
    congr 3
    rw [List.take_succ_eq_append_getElem hi]
    unfold rdsF
    rw [List.foldl_append]
    rfl) (by simp [F_counts_test_readings_s1, rds]) (by have := hr.nb; omega)
  simp only [Int.natCast_zero, Nat.zero_add, List.take_zero] at hl
  have hk : kok 6 [0, 0, 0, 0, 0, 0] = some () := xok_zero.kok (by omega)
  simp only [F_counts_test_readings, hk, Option.bind_some, e0]
  rw [show rdsF r.Meters a [] [zeroX] = [zeroX] from rfl] at hl
  rw [hl]; rfl
end
def wrongX (ms : List Meter) (x : List Int) : Nat := (List.range ms.length).countP fun i => !(x.getD i 0 == ((ms[i]?).getD ⟨0, 0⟩).Count)
def goodX (r : Run) (x : List Int) : Bool := decide ((wrongX r.Meters x : Int) ≤ r.Wrong)
section
variable {n : Nat} (hn : 100000000 ≤ n)
include hn
theorem p_right {r : Run} {asked : Blow → Int → Option Bool} {x : List Int} (hx : x.length = 6) (hm : r.Meters.length ≤ 5) {i : Nat} (hi : i < r.Meters.length) : F_counts_test_right n ⟨r, asked⟩ x i = some (x.getD i 0 == ((r.Meters[i]?).getD ⟨0, 0⟩).Count) := by
  have _hn := hn
  have e : r.Meters[i]? = some r.Meters[i] := List.getElem?_eq_getElem hi
  have e2 : x[i]? = some (x[i]'(by omega)) := List.getElem?_eq_getElem (by omega)
  simp only [F_counts_test_right, geti_nat, e, e2, Option.bind_some, Option.getD_some, List.getD_eq_getElem?_getD]
theorem p_wrong {r : Run} {asked : Blow → Int → Option Bool} {x : List Int} (hx : x.length = 6) (hm : r.Meters.length ≤ 5) : F_counts_test_wrong n ⟨r, asked⟩ x = some (wrongX r.Meters x : Int) := by
  have hl := loop_fold (step := F_counts_test_wrong_s1 n ⟨r, asked⟩ x) (List.range r.Meters.length) (fun i (b : Int) => (b, (i : Int))) (fun b i => if (!(x.getD i 0 == ((r.Meters[i]?).getD ⟨0, 0⟩).Count)) = true then b + 1 else b) (fun b => b) (fun i b => 0 ≤ b ∧ b ≤ i) (n := n) 0 (by omega) (fun i j b hj hI => by
    have hi : i < r.Meters.length := by simpa using (List.getElem?_eq_some_iff.1 hj).1
    have e : j = i := by
      have := (List.getElem?_eq_some_iff.1 hj).2
      simpa using this.symm
    subst e
    simp only [F_counts_test_wrong_s1, lt_nat, hi, decide_true, if_true, p_right hn hx hm hi, Option.bind_some, w64_nat (show j ≤ 4611686018427387904 by omega)]
    cases (x.getD j 0 == ((r.Meters[j]?).getD ⟨0, 0⟩).Count) with
    | true => simp; omega
    | false =>
      simp only [Bool.not_false, if_true, Option.bind_some]
      rw [w64_id (by omega) (by omega)]
      exact ⟨rfl, by omega⟩) (fun b _ => by simp [F_counts_test_wrong_s1]) (by simp; omega)
  simp only [List.length_range, Int.natCast_zero] at hl
  simp only [F_counts_test_wrong]
  rw [hl.1]
  simp only [Option.bind_some]
  rw [foldl_count, Int.zero_add]
  rfl
omit hn in
theorem foldl_del (bad : List Int → Bool) : ∀ (l m : Mp), l.foldl (fun m (p : List Int × Int) => if bad p.1 = true then mdel m p.1 else m) m = m.filter fun q => !(l.any fun p => bad p.1 && (q.1 == p.1))
  | [], m => by simp [List.filter_eq_self.2]
  | p :: l, m => by
    rw [List.foldl_cons, foldl_del bad l]
    cases hb : bad p.1 with
    | true =>
      rw [if_pos rfl, mdel, List.filter_filter]
      congr 1
      funext q
      simp only [List.any_cons, hb, Bool.true_and, Bool.not_or]
      cases (q.1 == p.1) <;> simp
    | false =>
      simp only [Bool.false_eq_true, if_false]
      congr 1
      funext q
      simp only [List.any_cons, hb, Bool.false_and, Bool.false_or]
theorem p_truthsR {r : Run} {asked : Blow → Int → Option Bool} {a : Blow → Int → Bool} (hr : ROk r) (ha : ∀ b ∈ r.Blows, ∀ f, b.Force.Low ≤ f → f ≤ b.Force.High → asked b f = some (a b f)) : F_counts_test_truths n ⟨r, asked⟩ = some (tally ((rds r a).filter (goodX r))) := by
  have hT := tally_ok (rds r a)
  have h6 : ∀ p ∈ tally (rds r a), p.1.length = 6 := fun p hp => (xok_of hr.nb p.1 (hT.key.1 ⟨p.2, hp⟩)).1
  have hP : permO (F_counts_test_truths_s1 n ⟨r, asked⟩) (tally (rds r a)) (tally (rds r a)) = some (tally ((rds r a).filter (goodX r))) := by
    refine permO_of fun l hl => ?_
    have h1 := foldP_some (step := F_counts_test_truths_s1 n ⟨r, asked⟩) (fun m (p : List Int × Int) => if (!goodX r p.1) = true then mdel m p.1 else m) (m := tally (rds r a)) l (tally (rds r a)) (fun p hp => hl.mem_iff.1 hp) (fun m p hp => by
      obtain ⟨x, v⟩ := p
      have hlen := h6 _ hp
      simp only at hlen
      simp only [F_counts_test_truths_s1, p_wrong hn hlen hr.nm, Option.bind_some]
      have e : decide (r.Wrong < (wrongX r.Meters x : Int)) = !goodX r x := by
        unfold goodX; rw [← decide_not]; congr 1; simp
      rw [e]
      cases goodX r x <;> rfl)
    rw [h1, foldl_del (fun x => !goodX r x) l]
    congr 1
    rw [← (hT.filter (goodX r)).eq]
    refine List.filter_congr fun q hq => ?_
    cases hg : goodX r q.1 with
    | true =>
      have : (l.any fun p => !goodX r p.1 && (q.1 == p.1)) = false := by
        rw [List.any_eq_false]
        intro p _ hh
        simp only [Bool.and_eq_true, beq_iff_eq] at hh
        rw [← hh.2, hg] at hh
        simp at hh
      rw [this]; rfl
    | false =>
      have : (l.any fun p => !goodX r p.1 && (q.1 == p.1)) = true := List.any_eq_true.2 ⟨q, hl.mem_iff.2 hq, by simp [hg]⟩
      rw [this]; rfl
  simp only [F_counts_test_truths, p_readings hn hr ha, Option.bind_some, hP]
/-- readings of truths -/
def trs (r : Run) (a : Blow → Int → Bool) : List (List Int) := (rds r a).filter (goodX r)
def openE (r : Run) (is : Bool) (a : Blow → Int → Bool) : Int := if checkR r ≠ 0 then checkR r else if is = false then 1 else if trs r a = [] then 3 else 0
theorem p_open {r : Run} (hs : SmallR r) (is : Bool) {asked : Blow → Int → Option Bool} {a : Blow → Int → Bool} (ha : ROk r → ∀ b ∈ r.Blows, ∀ f, b.Force.Low ≤ f → f ≤ b.Force.High → asked b f = some (a b f)) :
    F_counts_open n r is asked = some (if openE r is a = 0 then (some ⟨r, asked⟩, tally (trs r a), 0) else (none, [], openE r is a)) := by
  simp only [F_counts_open, p_CheckC hn hs, Option.bind_some]
  unfold openE
  by_cases h : checkR r = 0
  · have hr := checkR_ok.1 h
    simp only [h, bne_self_eq_false, Bool.false_eq_true, if_false, ne_eq, not_true_eq_false]
    cases is with
    | false => rfl
    | true =>
      simp only [Bool.not_true, Bool.false_eq_true, if_false, p_truthsR hn hr (ha hr), Option.bind_some]
      have ht := tally_ok (trs r a)
      by_cases h0 : trs r a = []
      · have e := ht.len0.2 h0
        rw [show tally ((rds r a).filter (goodX r)) = tally (trs r a) from rfl, e, if_pos h0]; rfl
      · have e : ¬ tally (trs r a) = [] := fun e => h0 (ht.len0.1 e)
        rw [show tally ((rds r a).filter (goodX r)) = tally (trs r a) from rfl, if_neg h0]
        have : ((tally (trs r a)).length : Int) ≠ 0 := fun e2 => e (List.eq_nil_of_length_eq_zero (by omega))
        have e3 : (((tally (trs r a)).length : Int) == 0) = false := by simpa using this
        rw [e3]; rfl
  · have e : (checkR r != 0) = true := by simpa using h
    rw [e]
    simp only [if_true, ne_eq, h, not_false_eq_true, if_false]
end
end Go.Proofs.Yteihdclpiekmaaa
end
section
namespace Go.Proofs.Yteihdclpiekmaaa
open Go Go.RowKit Go.Dec
set_option linter.unusedVariables false
def fmin {α : Type} (f : α → Int) (l : List α) (s : Int) : Int := l.foldl (fun s x => min s (f x)) s
def fmax {α : Type} (f : α → Int) (l : List α) (s : Int) : Int := l.foldl (fun s x => max s (f x)) s
theorem fmin_spec {α : Type} (f : α → Int) : ∀ (l : List α) (s : Int), (fmin f l s ≤ s ∧ ∀ x ∈ l, fmin f l s ≤ f x) ∧ (fmin f l s = s ∨ ∃ x ∈ l, fmin f l s = f x)
  | [], s => ⟨⟨Int.le_refl _, by simp⟩, .inl rfl⟩
  | a :: l, s => by
    obtain ⟨⟨h1, h2⟩, h3⟩ := fmin_spec f l (min s (f a))
    have e : fmin f (a :: l) s = fmin f l (min s (f a)) := rfl
    rw [e]
    refine ⟨⟨by omega, fun x hx => ?_⟩, ?_⟩
    · rcases List.mem_cons.1 hx with rfl | hx
      · omega
      · exact h2 x hx
    · rcases h3 with h3 | ⟨x, hx, h3⟩
      · rcases Int.le_total s (f a) with h | h
        · left; rw [h3]; omega
        · right; exact ⟨a, List.mem_cons_self .., by rw [h3]; omega⟩
      · exact .inr ⟨x, List.mem_cons_of_mem _ hx, h3⟩
theorem fmax_spec {α : Type} (f : α → Int) : ∀ (l : List α) (s : Int), (s ≤ fmax f l s ∧ ∀ x ∈ l, f x ≤ fmax f l s) ∧ (fmax f l s = s ∨ ∃ x ∈ l, fmax f l s = f x)
  | [], s => ⟨⟨Int.le_refl _, by simp⟩, .inl rfl⟩
  | a :: l, s => by
    obtain ⟨⟨h1, h2⟩, h3⟩ := fmax_spec f l (max s (f a))
    have e : fmax f (a :: l) s = fmax f l (max s (f a)) := rfl
    rw [e]
    refine ⟨⟨by omega, fun x hx => ?_⟩, ?_⟩
    · rcases List.mem_cons.1 hx with rfl | hx
      · omega
      · exact h2 x hx
    · rcases h3 with h3 | ⟨x, hx, h3⟩
      · rcases Int.le_total s (f a) with h | h
        · right; exact ⟨a, List.mem_cons_self .., by rw [h3]; omega⟩
        · left; rw [h3]; omega
      · exact .inr ⟨x, List.mem_cons_of_mem _ hx, h3⟩
theorem fmin_eq {α β : Type} {f : α → Int} {g : β → Int} {l : List α} {m : List β} (h1 : ∀ x ∈ l, ∃ y ∈ m, g y = f x) (h2 : ∀ y ∈ m, ∃ x ∈ l, f x = g y) (s : Int) : fmin f l s = fmin g m s := by
  obtain ⟨⟨a1, a2⟩, a3⟩ := fmin_spec f l s
  obtain ⟨⟨b1, b2⟩, b3⟩ := fmin_spec g m s
  have hle : fmin g m s ≤ fmin f l s := by
    rcases a3 with h | ⟨x, hx, h⟩
    · omega
    · obtain ⟨y, hy, e⟩ := h1 x hx
      have := b2 y hy; omega
  have hge : fmin f l s ≤ fmin g m s := by
    rcases b3 with h | ⟨y, hy, h⟩
    · omega
    · obtain ⟨x, hx, e⟩ := h2 y hy
      have := a2 x hx; omega
  omega
theorem fmax_eq {α β : Type} {f : α → Int} {g : β → Int} {l : List α} {m : List β} (h1 : ∀ x ∈ l, ∃ y ∈ m, g y = f x) (h2 : ∀ y ∈ m, ∃ x ∈ l, f x = g y) (s : Int) : fmax f l s = fmax g m s := by
  obtain ⟨⟨a1, a2⟩, a3⟩ := fmax_spec f l s
  obtain ⟨⟨b1, b2⟩, b3⟩ := fmax_spec g m s
  have hle : fmax f l s ≤ fmax g m s := by
    rcases a3 with h | ⟨x, hx, h⟩
    · omega
    · obtain ⟨y, hy, e⟩ := h1 x hx
      have := b2 y hy; omega
  have hge : fmax g m s ≤ fmax f l s := by
    rcases b3 with h | ⟨y, hy, h⟩
    · omega
    · obtain ⟨x, hx, e⟩ := h2 y hy
      have := a2 x hx; omega
  omega
/-- how many forces are at least a limit -/
def aboveS (c : List Int) (limit : Int) : Nat := c.countP fun f => decide (limit ≤ f)
def askN (a : Blow → Int → Bool) (bl : List Blow) (c : List Int) : Nat := (bl.zip c).countP fun p => a p.1 p.2
theorem addS_getD {ms : List Meter} {a : Blow → Int → Bool} {x : List Int} {b : Blow} {f : Int} {j : Nat} (hj : j < 6) : (addS ms a x b f).getD j 0 = x.getD j 0 + (if j = 5 then (if a b f = true then 1 else 0) else mtr ms f j) := by
  unfold addS; rw [range_getD, if_pos hj]
theorem readS_five {ms : List Meter} {a : Blow → Int → Bool} : ∀ (bl : List Blow) (c x : List Int), (readS ms a bl c x).getD 5 0 = x.getD 5 0 + (askN a bl c : Int)
  | [], c, x => by cases c <;> simp [readS, askN]
  | b :: bl, [], x => by simp [readS, askN]
  | b :: bl, f :: c, x => by
    have ih := readS_five (ms := ms) (a := a) bl c (addS ms a x b f)
    rw [readS, ih, addS_getD (by omega), if_pos rfl]
    simp only [askN, List.zip_cons_cons, List.countP_cons]
    cases a b f <;> simp <;> omega
theorem readS_j {ms : List Meter} {a : Blow → Int → Bool} {j : Nat} (hj : j < 5) {m : Meter} (hm : ms[j]? = some m) : ∀ (bl : List Blow) (c x : List Int), c.length = bl.length → (readS ms a bl c x).getD j 0 = x.getD j 0 + (aboveS c m.Limit : Int)
  | [], c, x, h => by cases c <;> simp_all [readS, aboveS]
  | b :: bl, [], x, h => by simp at h
  | b :: bl, f :: c, x, h => by
    have ih := readS_j (ms := ms) (a := a) hj hm bl c (addS ms a x b f) (by simpa using h)
    rw [readS, ih, addS_getD (by omega), if_neg (by omega), mtr_some hm]
    simp only [aboveS, List.countP_cons]
    by_cases hl : m.Limit ≤ f
    · simp [hl]; omega
    · simp [hl]
def rightC (m : Meter) (c : List Int) : Bool := (aboveS c m.Limit : Int) == m.Count
def wrongC (ms : List Meter) (c : List Int) : Nat := ms.countP fun m => !rightC m c
def truthC (r : Run) (c : List Int) : Bool := decide ((wrongC r.Meters c : Int) ≤ r.Wrong)
def truthsC (r : Run) : List (List Int) := (casesS r.Blows).filter (truthC r)
theorem zero_getD (j : Nat) : zeroX.getD j 0 = 0 := by
  match j with
  | 0 | 1 | 2 | 3 | 4 | 5 => rfl
  | j + 6 => simp [zeroX]
theorem countP_range {α : Type} (l : List α) (q : Nat → Bool) (p : α → Bool) (h : ∀ i x, l[i]? = some x → q i = p x) : (List.range l.length).countP q = l.countP p := by
  have : (List.range l.length).countP q = (List.range l.length).countP fun i => match l[i]? with | some x => p x | none => false := by
    apply List.countP_congr
    intro i hi
    have hi := List.mem_range.1 hi
    rw [h i _ (List.getElem?_eq_getElem hi), List.getElem?_eq_getElem hi]
  rw [this]
  clear this h
  induction l with
  | nil => rfl
  | cons a l ih =>
    rw [List.length_cons, List.range_succ_eq_map, List.countP_cons, List.countP_map, List.countP_cons, ← ih]
    simp [Function.comp_def]
theorem readS_at {r : Run} (hm : r.Meters.length ≤ 5) {a : Blow → Int → Bool} {c : List Int} (hc : c ∈ casesS r.Blows) {i : Nat} {m : Meter} (hi : r.Meters[i]? = some m) : (readS r.Meters a r.Blows c zeroX).getD i 0 = (aboveS c m.Limit : Int) := by
  have := (List.getElem?_eq_some_iff.1 hi).1
  rw [readS_j (by omega) hi r.Blows c zeroX (casesS_len hc), zero_getD, Int.zero_add]
theorem wrongX_read {r : Run} (hm : r.Meters.length ≤ 5) {a : Blow → Int → Bool} {c : List Int} (hc : c ∈ casesS r.Blows) : wrongX r.Meters (readS r.Meters a r.Blows c zeroX) = wrongC r.Meters c := by
  unfold wrongX wrongC
  refine countP_range _ _ _ fun i m hi => ?_
  rw [readS_at hm hc hi, hi]
  rfl
theorem rds_eq (r : Run) (a : Blow → Int → Bool) : rds r a = (casesS r.Blows).map fun c => readS r.Meters a r.Blows c zeroX := by
  unfold rds; rw [rdsF_cases]; simp
theorem trs_eq {r : Run} (hm : r.Meters.length ≤ 5) (a : Blow → Int → Bool) : trs r a = (truthsC r).map fun c => readS r.Meters a r.Blows c zeroX := by
  unfold trs truthsC
  rw [rds_eq, List.filter_map]
  congr 1
  apply List.filter_congr
  intro c hc
  simp only [Function.comp, goodX, truthC, wrongX_read hm hc]
/-- the error of what is asked -/
def errR (r : Run) (is : Bool) : Int := if checkR r ≠ 0 then checkR r else if is = false then 1 else if truthsC r = [] then 3 else 0
theorem openE_eq (r : Run) (is : Bool) (a : Blow → Int → Bool) : openE r is a = errR r is := by
  unfold openE errR
  by_cases h : checkR r = 0
  · have hr := checkR_ok.1 h
    have : (trs r a = []) = (truthsC r = []) := by rw [trs_eq hr.nm]; simp
    simp only [this]
  · rw [if_pos h, if_pos h]
theorem errR_ok {r : Run} {is : Bool} (h : errR r is = 0) : ROk r ∧ is = true ∧ truthsC r ≠ [] := by
  unfold errR at h
  split at h
  · rename_i h1; exact absurd h h1
  · rename_i h1
    split at h
    · cases h
    · rename_i h2
      split at h
      · cases h
      · rename_i h3
        exact ⟨checkR_ok.1 (by simpa using h1), by simpa using h2, h3⟩
theorem errR_true {r : Run} (hr : ROk r) : errR r true = if truthsC r = [] then 3 else 0 := by
  unfold errR
  rw [if_neg (by simpa using checkR_ok.2 hr)]
  simp
theorem errR_three {r : Run} (hr : ROk r) : errR r true = 0 ∨ errR r true = 3 := by
  rw [errR_true hr]; split <;> simp
theorem cases_len {r : Run} (hr : ROk r) : (casesS r.Blows).length ≤ 100000000 := by
  have h := rds_len (d := r.Canopy) (ms := r.Meters) (a := fun _ _ => false) r.Blows [zeroX] hr.b
  have e : (rds r fun _ _ => false).length = (casesS r.Blows).length := by rw [rds_eq]; simp
  have hp : (10 : Nat) ^ r.Blows.length ≤ 10 ^ 8 := Nat.pow_le_pow_right (by omega) hr.nb
  unfold rds at e
  simp only [List.length_cons, List.length_nil] at h
  omega
theorem truths_len {r : Run} (hr : ROk r) : (truthsC r).length ≤ 100000000 := Nat.le_trans (List.length_filter_le _ _) (cases_len hr)
def manyC (r : Run) : Int × Int := if errR r true = 0 then ((truthsC r).length, 0) else (0, errR r true)
def boundsT (r : Run) (is : Bool) (a : Blow → Int → Bool) : Span × Int := if errR r is = 0 then (⟨fmin (fun c => (askN a r.Blows c : Int)) (truthsC r) r.Blows.length, fmax (fun c => (askN a r.Blows c : Int)) (truthsC r) 0⟩, 0) else (⟨0, 0⟩, errR r is)
def fellA (d : Canopy) (surely : Bool) : Blow → Int → Bool := fun b f => (standsI d [⟨f, b.At⟩] == 2) || (!surely && (standsI d [⟨f, b.At⟩] == 3))
def harmT (r : Run) : Span × Int := if errR r true = 0 then (⟨fmin (fun c => (askN (fellA r.Canopy true) r.Blows c : Int)) (truthsC r) r.Blows.length, fmax (fun c => (askN (fellA r.Canopy false) r.Blows c : Int)) (truthsC r) 0⟩, 0) else (⟨0, 0⟩, errR r true)
section
variable {n : Nat} (hn : 100000000 ≤ n)
include hn
theorem p_openN {r : Run} (hs : SmallR r) (is : Bool) : F_counts_open n r is (fun a0_ a1_ => F_counts_none n a0_ a1_) = some (if errR r is = 0 then (some ⟨r, fun a0_ a1_ => F_counts_none n a0_ a1_⟩, tally (trs r fun _ _ => false), 0) else (none, [], errR r is)) := by
  rw [p_open hn hs is (asked := fun a0_ a1_ => F_counts_none n a0_ a1_) (a := fun _ _ => false) (fun _ _ _ _ _ _ => rfl), openE_eq]
omit hn in
theorem trs_ne {r : Run} {is : Bool} (h : errR r is = 0) (a : Blow → Int → Bool) : neM (tally (trs r a)) = some () := by
  obtain ⟨hr, _, h3⟩ := errR_ok h
  have h4 : trs r a ≠ [] := by rw [trs_eq hr.nm]; simpa using h3
  have h5 : tally (trs r a) ≠ [] := fun e => h4 ((tally_ok _).len0.1 e)
  unfold neM
  rw [if_neg (by simpa using h5)]
omit hn in
theorem many_sum (T : Mp) : ∀ (l : Mp) (s : Int), (∀ p ∈ l, 0 < p.2) → 0 ≤ s → s + (l.map (·.2)).sum ≤ 1000000000 → foldP (F_counts_Many_s1 n) s l = some (s + (l.map (·.2)).sum)
  | [], s, _, _, _ => by simp [foldP]
  | p :: l, s, h, h0, hb => by
    have hp := h p (List.mem_cons_self ..)
    have hl := sum_nonneg (l := l) fun z hz => h z (List.mem_cons_of_mem _ hz)
    simp only [List.map_cons, List.sum_cons] at hb
    obtain ⟨x, v⟩ := p
    simp only at hp hb
    rw [foldP, F_counts_Many_s1, w64_id (by omega) (by omega)]
    simp only [Option.bind_some]
    rw [many_sum T l (s + v) (fun z hz => h z (List.mem_cons_of_mem _ hz)) (by omega) (by omega)]
    simp only [List.map_cons, List.sum_cons]
    congr 1; omega
theorem p_Many {r : Run} (hs : SmallR r) : F_counts_Many n r = some (manyC r) := by
  simp only [F_counts_Many, p_openN hn hs, Option.bind_some, manyC]
  by_cases h : errR r true = 0
  · rw [if_pos h, if_pos h]
    obtain ⟨hr, _, _⟩ := errR_ok h
    have hT := tally_ok (trs r fun _ _ => false)
    have hlen : (trs r fun _ _ => false).length = (truthsC r).length := by rw [trs_eq hr.nm]; simp
    have hP : permO (F_counts_Many_s1 n) 0 (tally (trs r fun _ _ => false)) = some ((truthsC r).length : Int) := permO_of fun l hl => by
      rw [many_sum [] l 0 (fun p hp => hT.pos p (hl.mem_iff.1 hp)) (Int.le_refl _) (by rw [sum_perm hl, hT.total, hlen]; have := truths_len hr; omega), sum_perm hl, hT.total, hlen, Int.zero_add]
    simp only [trs_ne h, Option.bind_some, hP]
    rfl
  · rw [if_neg h, if_neg h]
    have e : (errR r true != 0) = true := by simpa using h
    simp only [e, if_true]
theorem p_bounds {r : Run} (hs : SmallR r) (is : Bool) {asked : Blow → Int → Option Bool} {a : Blow → Int → Bool} (ha : ROk r → ∀ b ∈ r.Blows, ∀ f, b.Force.Low ≤ f → f ≤ b.Force.High → asked b f = some (a b f)) : F_counts_bounds n r is asked = some (boundsT r is a) := by
  simp only [F_counts_bounds, p_open hn hs is ha, openE_eq, Option.bind_some, boundsT]
  by_cases h : errR r is = 0
  · rw [if_pos h, if_pos h]
    obtain ⟨hr, _, _⟩ := errR_ok h
    have hT := tally_ok (trs r a)
    have hx : ∀ p ∈ tally (trs r a), ∃ c ∈ truthsC r, p.1 = readS r.Meters a r.Blows c zeroX := fun p hp => by
      have h1 := hT.key.1 ⟨p.2, hp⟩
      rw [trs_eq hr.nm] at h1
      obtain ⟨c, hc, e⟩ := List.mem_map.1 h1
      exact ⟨c, hc, e.symm⟩
    have hx2 : ∀ c ∈ truthsC r, ∃ v, (readS r.Meters a r.Blows c zeroX, v) ∈ tally (trs r a) := fun c hc => hT.key.2 (by rw [trs_eq hr.nm]; exact List.mem_map.2 ⟨c, hc, rfl⟩)
    have h6 : ∀ p ∈ tally (trs r a), p.1.length = 6 := fun p hp => (xok_of hr.nb p.1 (List.mem_filter.1 (hT.key.1 ⟨p.2, hp⟩)).1).1
    have hP := permO_comm (step := F_counts_bounds_s1 n) (fun s p => (min s.1 (p.1.getD 5 0), max s.2 (p.1.getD 5 0))) (fun s x y => by simp only; congr 1 <;> omega) (m := tally (trs r a)) ((r.Blows.length : Int), 0) (fun s p hp => by
      obtain ⟨x, v⟩ := p
      obtain ⟨s1, s2⟩ := s
      have hl := h6 _ hp
      simp only at hl
      have e : geti x 5 = some (x.getD 5 0) := by
        have := geti_nat x 5
        rw [show ((5 : Nat) : Int) = 5 from rfl] at this
        rw [this, List.getD_eq_getElem?_getD, List.getElem?_eq_getElem (by omega)]
        rfl
      simp only [F_counts_bounds_s1, e, Option.bind_some])
    rw [foldl_pair (fun s (p : List Int × Int) => min s (p.1.getD 5 0)) (fun s (p : List Int × Int) => max s (p.1.getD 5 0))] at hP
    have f1 : (tally (trs r a)).foldl (fun s (p : List Int × Int) => min s (p.1.getD 5 0)) (r.Blows.length : Int) = fmin (fun c => (askN a r.Blows c : Int)) (truthsC r) r.Blows.length := by
      refine fmin_eq (f := fun p : List Int × Int => p.1.getD 5 0) (fun p hp => ?_) (fun c hc => ?_) _
      · obtain ⟨c, hc, e⟩ := hx p hp
        exact ⟨c, hc, by rw [e, readS_five, zero_getD, Int.zero_add]⟩
      · obtain ⟨v, hv⟩ := hx2 c hc
        exact ⟨_, hv, by simp only; rw [readS_five, zero_getD, Int.zero_add]⟩
    have f2 : (tally (trs r a)).foldl (fun s (p : List Int × Int) => max s (p.1.getD 5 0)) 0 = fmax (fun c => (askN a r.Blows c : Int)) (truthsC r) 0 := by
      refine fmax_eq (f := fun p : List Int × Int => p.1.getD 5 0) (fun p hp => ?_) (fun c hc => ?_) _
      · obtain ⟨c, hc, e⟩ := hx p hp
        exact ⟨c, hc, by rw [e, readS_five, zero_getD, Int.zero_add]⟩
      · obtain ⟨v, hv⟩ := hx2 c hc
        exact ⟨_, hv, by simp only; rw [readS_five, zero_getD, Int.zero_add]⟩
    rw [f1, f2] at hP
    simp only [bne_self_eq_false, Bool.false_eq_true, if_false, trs_ne h, Option.bind_some, hP]
  · rw [if_neg h, if_neg h]
    have e : (errR r is != 0) = true := by simpa using h
    simp only [e, if_true]
omit hn in
theorem stands_at {d : Canopy} (hd : DOk d) {b : Blow} (hb : BlOk d b) {f : Int} (h1 : b.Force.Low ≤ f) (h2 : f ≤ b.Force.High) : GOk d.Ribs.length ⟨f, b.At⟩ := by
  have := hb.lo; have := hb.hi
  have h3 := hb.at_
  exact ⟨by simp only; omega, by simp only; omega⟩
omit hn in
theorem standsT_at {d : Canopy} (hd : DOk d) {g : Gust} (hg : GOk d.Ribs.length g) : standsT d [g] = (standsI d [g], 0) := by
  unfold standsT
  rw [if_pos (askG_ok.2 ⟨hd, by simp, fun x hx => by rw [List.mem_singleton.1 hx]; exact hg⟩)]
theorem p_asked {r : Run} (hr : ROk r) (surely : Bool) : ∀ b ∈ r.Blows, ∀ f, b.Force.Low ≤ f → f ≤ b.Force.High → F_asked n r.Canopy surely b f = some (fellA r.Canopy surely b f) := fun b hb f h1 h2 => by
  have hbo := hr.b b hb
  have := hbo.lo; have := hbo.hi; have h3 := hbo.at_; have := hr.d.r
  have hk : kok 2 [f, b.At] = some () := kok_ok ⟨rfl, fun x hx => by
    simp only [List.mem_cons, List.not_mem_nil, or_false] at hx
    rcases hx with rfl | rfl <;> omega⟩
  simp only [F_asked, hk, Option.bind_some, p_Stands hn hr.d.small (l := [Gust.mk f b.At]) (by simp), standsT_at hr.d (stands_at hr.d hbo h1 h2), fellA]
theorem p_Harm {r : Run} (hs : SmallR r) : F_counts_Harm n r = some (harmT r) := by
  have b1 := p_bounds hn hs true (asked := F_asked n r.Canopy true) (a := fellA r.Canopy true) (fun hr => p_asked hn hr true)
  have b2 := p_bounds hn hs true (asked := F_asked n r.Canopy false) (a := fellA r.Canopy false) (fun hr => p_asked hn hr false)
  simp only [F_counts_Harm, b1, b2, Option.bind_some, harmT, boundsT]
  by_cases h : errR r true = 0
  · simp only [h, if_true, bne_self_eq_false, Bool.false_eq_true, if_false]
  · have e : (errR r true != 0) = true := by simpa using h
    simp only [h, if_false, e, if_true]
end
end Go.Proofs.Yteihdclpiekmaaa
end
section
namespace Go.Proofs.Yteihdclpiekmaaa
open Go Go.RowKit Go.Dec
set_option linter.unusedVariables false
theorem mem_cases : ∀ {bl : List Blow} {c : List Int}, c ∈ casesS bl ↔ c.length = bl.length ∧ ∀ (i : Nat) (b : Blow) (x : Int), bl[i]? = some b → c[i]? = some x → b.Force.Low ≤ x ∧ x ≤ b.Force.High
  | [], c => by
    constructor
    · intro h; simp [casesS] at h; subst h; simp
    · rintro ⟨h, _⟩
      have : c = [] := List.eq_nil_of_length_eq_zero h
      subst this; simp [casesS]
  | b :: bl, c => by
    simp only [casesS, List.mem_flatMap, List.mem_map]
    constructor
    · rintro ⟨f, hf, c', hc, rfl⟩
      obtain ⟨h1, h2⟩ := mem_cases.1 hc
      refine ⟨by simp [h1], fun i b' x hb hx => ?_⟩
      cases i with
      | zero =>
        simp only [List.getElem?_cons_zero, Option.some.injEq] at hb hx
        subst hb; subst hx
        exact span_mem'.1 hf
      | succ i =>
        simp only [List.getElem?_cons_succ] at hb hx
        exact h2 i b' x hb hx
    · rintro ⟨h1, h2⟩
      cases c with
      | nil => simp at h1
      | cons f c =>
        refine ⟨f, span_mem'.2 (h2 0 b f rfl rfl), c, mem_cases.2 ⟨by simpa using h1, fun i b' x hb hx => h2 (i + 1) b' x (by simpa using hb) (by simpa using hx)⟩, rfl⟩
theorem truth_case {r : Run} {c : List Int} (h : c ∈ truthsC r) : c ∈ casesS r.Blows := (List.mem_filter.1 h).1
section
variable {n : Nat} (hn : 100000000 ≤ n)
include hn
theorem p_Copy13 {r : Run} (hs : SmallR r) : F_ref13_Copy n r = some r := by
  simp only [F_ref13_Copy, p_Copy05 hn hs.1, Option.bind_some, List.nil_append]
  rw [lim_ok (by have := hs.2.1; omega), lim_ok (by have := hs.2.2; omega)]
  rfl
theorem p_Far13 (r : Run) : F_law13_Far n r = some true ∨ (F_law13_Far n r = some false ∧ SmallR r ∧ r.Blows.length ≤ 40 ∧ r.Meters.length ≤ 40) := by
  unfold F_law13_Far
  rcases p_Far hn r.Canopy with h | ⟨h, hs, h1, h2, h3⟩
  · left; rw [h]; rfl
  · rw [h]
    simp only [Option.bind_some, Bool.false_or]
    by_cases h4 : 40 < (r.Blows.length : Int)
    · left; simp [h4]
    · by_cases h5 : 40 < (r.Meters.length : Int)
      · left; simp [h5]
      · have hsr : SmallR r := ⟨hs, by omega, by omega⟩
        have e4 : decide (40 < (r.Blows.length : Int)) = false := decide_eq_false h4
        have e5 : decide (40 < (r.Meters.length : Int)) = false := decide_eq_false h5
        simp only [e4, e5, Bool.false_or, Bool.false_eq_true, if_false, p_Check13 hn hsr, Option.bind_some]
        by_cases h6 : checkR r = 0
        · have hr := checkR_ok.1 h6
          have e6 : (checkR r != 0) = false := by simp [h6]
          rw [e6]
          simp only [Bool.false_eq_true, if_false]
          have key : ∀ (k i : Nat) (m : Int) (fuel : Nat), i + k = r.Blows.length → 1 ≤ m → m ≤ 600 → k < fuel → ∃ v, loopO fuel (F_law13_Far_s1 n r) (m, (i : Int)) = some v ∧ (v = .inl true ∨ v = .inr ()) := by
            intro k
            induction k with
            | zero =>
              intro i m fuel hi _ _ hf
              refine ⟨.inr (), loop_done ?_ hf, .inr rfl⟩
              have : i = r.Blows.length := by omega
              subst this
              simp [F_law13_Far_s1]
            | succ k ih =>
              intro i m fuel hi h1 h2 hf
              obtain ⟨fuel, rfl⟩ : ∃ k, fuel = k + 1 := ⟨fuel - 1, by omega⟩
              have hlt : i < r.Blows.length := by omega
              have e : r.Blows[i]? = some r.Blows[i] := List.getElem?_eq_getElem hlt
              have hb := hr.b _ (List.getElem_mem hlt)
              have hg := hb.gap; have hle := hb.le; have := hb.lo; have := hb.hi
              have hm1 := mul_in (x := m) (y := r.Blows[i].Force.High - r.Blows[i].Force.Low + 1) (A := 600) (C := 10) (by omega) h2 (by omega) (by omega)
              have hm2 : 1 ≤ m * (r.Blows[i].Force.High - r.Blows[i].Force.Low + 1) := by
                have := Int.mul_le_mul h1 (show 1 ≤ r.Blows[i].Force.High - r.Blows[i].Force.Low + 1 by omega) (by omega) (by omega)
                omega
              rw [loopO_succ]
              simp only [F_law13_Far_s1, lt_nat, hlt, decide_true, if_true, geti_nat, e, Option.bind_some]
              rw [w64_id (n := r.Blows[i].Force.High - r.Blows[i].Force.Low) (by omega) (by omega), w64_id (n := r.Blows[i].Force.High - r.Blows[i].Force.Low + 1) (by omega) (by omega), w64_id (by omega) (by omega), w64_nat (show i ≤ 4611686018427387904 by have := hr.nb; omega)]
              by_cases hbig : 600 < m * (r.Blows[i].Force.High - r.Blows[i].Force.Low + 1)
              · rw [if_pos (by simpa using hbig)]
                exact ⟨_, rfl, .inl rfl⟩
              · rw [if_neg (by simpa using hbig)]
                exact ih (i + 1) _ fuel (by omega) hm2 (by omega) (by omega)
          obtain ⟨v, hv, hv2⟩ := key r.Blows.length 0 1 n (by omega) (by omega) (by omega) (by have := hr.nb; omega)
          simp only [Int.natCast_zero] at hv
          rw [hv]
          rcases hv2 with rfl | rfl
          · left; rfl
          · right; exact ⟨rfl, hsr, by omega, by omega⟩
        · right
          have e6 : (checkR r != 0) = true := by simpa using h6
          rw [e6]
          exact ⟨rfl, hsr, by omega, by omega⟩
end
def exR : Run := ⟨exD, [⟨0, ⟨10, 14⟩⟩, ⟨0, ⟨12, 15⟩⟩, ⟨3, ⟨4, 6⟩⟩], [⟨13, 1⟩, ⟨5, 3⟩], 0⟩
set_option maxRecDepth 1000000 in
theorem ex_small : SmallR exR := by refine ⟨⟨?_, ?_, ?_⟩, ?_, ?_⟩ <;> decide
set_option maxRecDepth 1000000 in
theorem ex_many : manyC exR = (22, 0) := by kernel_rfl
theorem ex_of (n : Nat) : F_law13_Example n = some exR := rfl
end Go.Proofs.Yteihdclpiekmaaa
end
section
namespace Go.Proofs.Yteihdclpiekmaaa
open Go Go.RowKit Go.Dec
set_option linter.unusedVariables false
theorem fmin_le_of {α : Type} {f g : α → Int} {l m : List α} (h : ∀ x ∈ m, ∃ y ∈ l, f y ≤ g x) (s : Int) : fmin f l s ≤ fmin g m s := by
  obtain ⟨⟨a1, a2⟩, _⟩ := fmin_spec f l s
  obtain ⟨_, b3⟩ := fmin_spec g m s
  rcases b3 with e | ⟨x, hx, e⟩
  · omega
  · obtain ⟨y, hy, hle⟩ := h x hx
    have := a2 y hy; omega
theorem fmax_le_of {α : Type} {f g : α → Int} {l m : List α} (h : ∀ x ∈ m, ∃ y ∈ l, g x ≤ f y) (s : Int) : fmax g m s ≤ fmax f l s := by
  obtain ⟨⟨a1, a2⟩, _⟩ := fmax_spec f l s
  obtain ⟨_, b3⟩ := fmax_spec g m s
  rcases b3 with e | ⟨x, hx, e⟩
  · omega
  · obtain ⟨y, hy, hle⟩ := h x hx
    have := a2 y hy; omega
theorem askN_le (a : Blow → Int → Bool) (bl : List Blow) (c : List Int) : askN a bl c ≤ bl.length := by
  unfold askN
  refine Nat.le_trans List.countP_le_length ?_
  rw [List.length_zip]; omega
theorem harm_low {r : Run} (hr : ROk r) (h : errR r true = 0) : (harmT r).1 = ⟨fmin (fun c => (askN (fellA r.Canopy true) r.Blows c : Int)) (truthsC r) r.Blows.length, fmax (fun c => (askN (fellA r.Canopy false) r.Blows c : Int)) (truthsC r) 0⟩ := by
  unfold harmT; rw [if_pos h]
theorem harm_err (r : Run) : (harmT r).2 = errR r true := by
  unfold harmT
  split
  · rename_i h; exact h.symm
  · rfl
end Go.Proofs.Yteihdclpiekmaaa
end
section
namespace Go.Proofs.Yteihdclpiekmaaa
open Go Go.RowKit Go.Dec
theorem stands_val (d : Canopy) (l : List Gust) : standsI d l = 1 ∨ standsI d l = 2 ∨ standsI d l = 3 := by
  unfold standsI
  split
  · exact .inl rfl
  · split
    · exact .inr (.inr rfl)
    · exact .inr (.inl rfl)
theorem fell_t {d : Canopy} {b : Blow} {f : Int} : fellA d true b f = true ↔ standsI d [⟨f, b.At⟩] = 2 := by simp [fellA]
theorem fell_f {d : Canopy} {b : Blow} {f : Int} : fellA d false b f = true ↔ standsI d [⟨f, b.At⟩] ≠ 1 := by
  rcases stands_val d [⟨f, b.At⟩] with h | h | h <;> simp [fellA, h]
theorem askN_mono {a a' : Blow → Int → Bool} {bl : List Blow} {c : List Int} (h : ∀ p ∈ bl.zip c, a p.1 p.2 = true → a' p.1 p.2 = true) : askN a bl c ≤ askN a' bl c := by
  unfold askN
  exact List.countP_mono_left h
theorem fell_tf {d : Canopy} {b : Blow} {f : Int} (h : fellA d true b f = true) : fellA d false b f = true := fell_f.2 (by rw [fell_t.1 h]; decide)
theorem zip_case {bl : List Blow} {c : List Int} (hc : c ∈ casesS bl) {p : Blow × Int} (hp : p ∈ bl.zip c) : p.1 ∈ bl ∧ p.1.Force.Low ≤ p.2 ∧ p.2 ≤ p.1.Force.High := by
  obtain ⟨i, hi⟩ := List.mem_iff_getElem?.1 hp
  rw [List.getElem?_zip_eq_some] at hi
  exact ⟨List.mem_of_getElem? hi.1, (mem_cases.1 hc).2 i _ _ hi.1 hi.2⟩
/-- what is known of Harm -/
theorem harm_spec {r : Run} (e : errR r true = 0) : 0 ≤ (harmT r).1.Low ∧ (harmT r).1.Low ≤ (harmT r).1.High ∧ (harmT r).1.High ≤ r.Blows.length ∧ (∀ c ∈ truthsC r, (harmT r).1.Low ≤ (askN (fellA r.Canopy true) r.Blows c : Int) ∧ (askN (fellA r.Canopy false) r.Blows c : Int) ≤ (harmT r).1.High)
    ∧ (harmT r).1.Low = fmin (fun c => (askN (fellA r.Canopy true) r.Blows c : Int)) (truthsC r) r.Blows.length ∧ (harmT r).1.High = fmax (fun c => (askN (fellA r.Canopy false) r.Blows c : Int)) (truthsC r) 0 := by
  obtain ⟨hr, _, hne⟩ := errR_ok e
  rw [harm_low hr e]
  simp only
  obtain ⟨⟨l1, l2⟩, l3⟩ := fmin_spec (fun c => (askN (fellA r.Canopy true) r.Blows c : Int)) (truthsC r) r.Blows.length
  obtain ⟨⟨u1, u2⟩, u3⟩ := fmax_spec (fun c => (askN (fellA r.Canopy false) r.Blows c : Int)) (truthsC r) 0
  obtain ⟨c, hc⟩ := List.exists_mem_of_ne_nil _ hne
  have h1 := l2 c hc
  have h2 := u2 c hc
  have h3 : askN (fellA r.Canopy true) r.Blows c ≤ askN (fellA r.Canopy false) r.Blows c := askN_mono fun p _ h => fell_tf h
  refine ⟨?_, ?_, ?_, fun c hc => ⟨l2 c hc, u2 c hc⟩, trivial, trivial⟩
  · rcases l3 with h | ⟨x, _, h⟩ <;> omega
  · omega
  · rcases u3 with h | ⟨x, _, h⟩
    · omega
    · have := askN_le (fellA r.Canopy false) r.Blows x; omega
end Go.Proofs.Yteihdclpiekmaaa
end
section
namespace Go.Proofs.Yteihdclpiekmaaa
open Go Go.RowKit Go.Dec
theorem p_isRun {n : Nat} (hn : 100000000 ≤ n) (r : Run) : F_top_isRun n r = some false ∨ (F_top_isRun n r = some true ∧ ROk r) := by
  unfold F_top_isRun
  rcases p_Far13 hn r with h | ⟨h, hs, _⟩
  · left; rw [h]; rfl
  · rw [h]
    simp only [Option.bind_some, Bool.not_false, if_true, p_Check13 hn hs]
    by_cases h6 : checkR r = 0
    · right; exact ⟨by simp [h6], checkR_ok.1 h6⟩
    · left
      have : (checkR r == 0) = false := by simpa using h6
      rw [this]
theorem tested_any {n : Nat} (hn : 100000000 ≤ n) : F_top_tested n = some true := by
  have e1 : F_law05_Example n = some exD := rfl
  simp only [F_top_tested, e1, Option.bind_some, p_Lift hn (show Small exD from ex_small.1), ex_lift, ex_of, p_Many hn ex_small, ex_many]
  rfl
end Go.Proofs.Yteihdclpiekmaaa
end
section
namespace Go.Proofs.Yteihdclpiekmaaa
open Go Go.RowKit Go.Dec
/-- a loop over a span -/
theorem loop_span {σ ρ : Type} {step : Int × σ → Option ((Int × σ) ⊕ ρ)} {hi : Int} (g : σ → Int → σ) (fin : σ → ρ) (I : Int → σ → Prop) : ∀ (k : Nat) (lo : Int) (s : σ) (n : Nat), (hi + 1 - lo).toNat = k → I lo s →
    (∀ b s, lo ≤ b → b ≤ hi → I b s → step (b, s) = some (.inl (b + 1, g s b)) ∧ I (b + 1) (g s b)) → (∀ b s, hi < b → step (b, s) = some (.inr (fin s))) → k < n →
    loopO n step (lo, s) = some (fin ((span lo hi).foldl g s)) := by
  intro k
  induction k with
  | zero =>
    intro lo s n hk _ _ hd hn
    rw [span_nil (by omega)]
    exact loop_done (hd lo s (by omega)) hn
  | succ k ih =>
    intro lo s n hk hI h hd hn
    obtain ⟨m, rfl⟩ : ∃ k, n = k + 1 := ⟨n - 1, by omega⟩
    obtain ⟨h1, h2⟩ := h lo s (Int.le_refl _) (by omega) hI
    rw [loopO_succ, h1, span_cons (by omega), List.foldl_cons]
    exact ih (lo + 1) _ m (by omega) h2 (fun b s hb => h b s (by omega)) hd (by omega)
theorem foldl_app {α β : Type} (g : α → List β) : ∀ (l : List α) (s : List β), l.foldl (fun s x => s ++ g x) s = s ++ l.flatMap g
  | [], s => by simp
  | a :: l, s => by rw [List.foldl_cons, foldl_app g l, List.flatMap_cons, List.append_assoc]
theorem foldl_cnt {α : Type} (p : α → Bool) : ∀ (l : List α) (s : Nat), l.foldl (fun s x => if p x = true then s + 1 else s) s = s + l.countP p
  | [], s => by simp
  | a :: l, s => by
    rw [List.foldl_cons, foldl_cnt p l, List.countP_cons]
    cases p a <;> simp <;> omega
theorem foldl_filter' {α : Type} (p : α → Bool) : ∀ (l s : List α), l.foldl (fun s x => if p x = true then s ++ [x] else s) s = s ++ l.filter p
  | [], s => by simp
  | a :: l, s => by
    rw [List.foldl_cons, foldl_filter' p l, List.filter_cons]
    cases p a <;> simp
theorem cases_small : ∀ (bl : List Blow), (∀ b ∈ bl, b.Force.High - b.Force.Low ≤ 9) → (casesS bl).length ≤ 10 ^ bl.length
  | [], _ => by simp [casesS]
  | b :: bl, h => by
    have ih := cases_small bl fun x hx => h x (List.mem_cons_of_mem _ hx)
    have hb := h b (List.mem_cons_self ..)
    unfold casesS
    have h1 := flatMap_len (l := span b.Force.Low b.Force.High) (f := fun f => (casesS bl).map fun c => f :: c) (c := (casesS bl).length) fun x _ => by simp
    rw [span_len] at h1
    rw [List.length_cons, Nat.pow_succ, Nat.mul_comm]
    refine Nat.le_trans h1 (Nat.mul_le_mul (by omega) ih)
section
variable {n : Nat} (hn : 200000000 ≤ n)
include hn
theorem p_cases {r : Run} (hr : ROk r) : ∀ (k : Nat) (first : List Int) (m : Nat), first.length + k = r.Blows.length → 100000000 + k < m → F_ref13_cases m r first = some ((casesS (r.Blows.drop first.length)).map (first ++ ·)) := by
  have _hn := hn
  have hnb := hr.nb
  intro k
  induction k with
  | zero =>
    intro first m hk hm
    obtain ⟨m, rfl⟩ : ∃ k, m = k + 1 := ⟨m - 1, by omega⟩
    have e : ((first.length : Int) == (r.Blows.length : Int)) = true := by simp; omega
    simp only [F_ref13_cases, e, if_true]
    rw [List.drop_eq_nil_of_le (by omega)]
    simp [casesS]
  | succ k ih =>
    intro first m hk hm
    obtain ⟨m, rfl⟩ : ∃ k, m = k + 1 := ⟨m - 1, by omega⟩
    have e : ((first.length : Int) == (r.Blows.length : Int)) = false := by simp; omega
    have hlt : first.length < r.Blows.length := by omega
    have hb := hr.b _ (List.getElem_mem hlt)
    have hbl := hb.le; have hbg := hb.gap; have hb0 := hb.lo; have hbh := hb.hi
    have hgt : geti r.Blows (first.length : Int) = some r.Blows[first.length] := by rw [geti_nat]; exact List.getElem?_eq_getElem hlt
    simp only [F_ref13_cases, e, Bool.false_eq_true, if_false, hgt, Option.bind_some]
    generalize hB : r.Blows[first.length] = b at *
    have hc : (casesS (r.Blows.drop (first.length + 1))).length ≤ 10000000 := by
      have h1 := cases_small (r.Blows.drop (first.length + 1)) fun x hx => (hr.b x (List.mem_of_mem_drop hx)).gap
      have h2 : (r.Blows.drop (first.length + 1)).length ≤ 7 := by rw [List.length_drop]; omega
      have h3 : (10 : Nat) ^ (r.Blows.drop (first.length + 1)).length ≤ 10 ^ 7 := Nat.pow_le_pow_right (by omega) h2
      omega
    have hl := loop_span (step := F_ref13_cases_s1 m (F_ref13_cases m) r first b) (hi := b.Force.High) (fun s f => s ++ (casesS (r.Blows.drop (first.length + 1))).map ((first ++ [f]) ++ ·)) (fun s => s)
      (fun f s => b.Force.Low ≤ f ∧ s.length ≤ (f - b.Force.Low).toNat * (casesS (r.Blows.drop (first.length + 1))).length) _ b.Force.Low [] m rfl ⟨Int.le_refl _, by simp⟩ (fun f s h1 h2 hI => by
        have k1 : (f - b.Force.Low).toNat * (casesS (r.Blows.drop (first.length + 1))).length ≤ 9 * 10000000 := Nat.mul_le_mul (by omega) hc
        have k2 : (f + 1 - b.Force.Low).toNat = (f - b.Force.Low).toNat + 1 := by omega
        have k3 := hI.2
        have e1 : lim (([] : List Int) ++ first) = some first := by rw [List.nil_append]; exact lim_ok (by omega)
        have e2 : lim (first ++ [f]) = some (first ++ [f]) := lim_ok (by simp; omega)
        have e3 := ih (first ++ [f]) m (by simp; omega) (by omega)
        have e4 : (first ++ [f]).length = first.length + 1 := by simp
        rw [e4] at e3
        have e5 : lim (s ++ (casesS (r.Blows.drop (first.length + 1))).map ((first ++ [f]) ++ ·)) = some (s ++ (casesS (r.Blows.drop (first.length + 1))).map ((first ++ [f]) ++ ·)) := lim_ok (by rw [List.length_append, List.length_map]; omega)
        refine ⟨?_, by omega, ?_⟩
        · simp only [F_ref13_cases_s1, decide_eq_true h2, if_true, e1, e2, e3, e5, Option.bind_some, w64_id (show -9223372036854775808 ≤ f + 1 by omega) (show f + 1 ≤ 9223372036854775807 by omega)]
        · rw [k2, Nat.succ_mul, List.length_append, List.length_map]; omega) (fun f s hf => by
        simp only [F_ref13_cases_s1, decide_eq_false (show ¬ f ≤ b.Force.High by omega), Bool.false_eq_true, if_false]) (by omega)
    rw [hl, Option.bind_some]
    congr 1
    rw [foldl_app, List.nil_append, List.drop_eq_getElem_cons hlt, hB]
    conv => rhs; unfold casesS
    rw [List.map_flatMap]
    congr 1
    funext f
    rw [List.map_map]
    congr 1
    funext c
    simp
theorem p_cases0 {r : Run} (hr : ROk r) : F_ref13_cases n r [] = some (casesS r.Blows) := by
  have hnb := hr.nb
  rw [p_cases hn hr r.Blows.length [] n (by simp) (by omega)]
  simp
theorem p_Above13 {c : List Int} (hc : c.length ≤ 100000000) (x : Int) : F_ref13_Above n c x = some (aboveS c x : Int) := by
  have hl := loop_fold (step := F_ref13_Above_s1 n c x) c (fun i (k : Nat) => ((k : Int), (i : Int))) (fun k f => if decide (x ≤ f) = true then k + 1 else k) (fun k => (k : Int)) (fun i k => k ≤ i) (n := n) 0 (Nat.le_refl _) (fun i f k hf hk => by
    have hi : i < c.length := (List.getElem?_eq_some_iff.1 hf).1
    simp only [F_ref13_Above_s1, lt_nat, hi, decide_true, if_true, geti_nat, hf, Option.bind_some, w64_nat (show i ≤ 4611686018427387904 by omega), w64_nat (show k ≤ 4611686018427387904 by omega)]
    by_cases h : x ≤ f
    · simp only [decide_eq_true h, if_true, Option.bind_some]; exact ⟨trivial, by omega⟩
    · simp only [decide_eq_false h, Bool.false_eq_true, if_false, Option.bind_some]; exact ⟨trivial, by omega⟩) (fun k hk => by
    simp [F_ref13_Above_s1]) (by omega)
  have h1 := hl.1
  rw [foldl_cnt (fun f => decide (x ≤ f))] at h1
  unfold F_ref13_Above
  rw [show ((0 : Int), (0 : Int)) = (((0 : Nat) : Int), ((0 : Nat) : Int)) from rfl, h1, Option.bind_some]
  unfold aboveS
  rw [Nat.zero_add]
theorem p_IsRight13 {c : List Int} (hc : c.length ≤ 100000000) (m : Meter) : F_ref13_IsRight n m c = some (rightC m c) := by
  simp only [F_ref13_IsRight, p_Above13 hn hc, Option.bind_some]; rfl
theorem p_Wrongs {r : Run} (hm : r.Meters.length ≤ 1000) {c : List Int} (hc : c.length ≤ 100000000) : F_ref13_Wrongs n r c = some (wrongC r.Meters c : Int) := by
  have hl := loop_fold (step := F_ref13_Wrongs_s1 n r c) r.Meters (fun i (k : Nat) => ((k : Int), (i : Int))) (fun k m => if (!rightC m c) = true then k + 1 else k) (fun k => (k : Int)) (fun i k => k ≤ i) (n := n) 0 (Nat.le_refl _) (fun i m k hf hk => by
    have hi : i < r.Meters.length := (List.getElem?_eq_some_iff.1 hf).1
    simp only [F_ref13_Wrongs_s1, lt_nat, hi, decide_true, if_true, geti_nat, hf, p_IsRight13 hn hc, Option.bind_some, w64_nat (show i ≤ 4611686018427387904 by omega), w64_nat (show k ≤ 4611686018427387904 by omega)]
    cases rightC m c
    · simp only [Bool.not_false, if_true, Option.bind_some]; exact ⟨trivial, by omega⟩
    · simp only [Bool.not_true, Bool.false_eq_true, if_false, Option.bind_some]; exact ⟨trivial, by omega⟩) (fun k hk => by
    simp [F_ref13_Wrongs_s1]) (by omega)
  have h1 := hl.1
  rw [foldl_cnt (fun m => !rightC m c)] at h1
  unfold F_ref13_Wrongs
  rw [show ((0 : Int), (0 : Int)) = (((0 : Nat) : Int), ((0 : Nat) : Int)) from rfl, h1, Option.bind_some]
  unfold wrongC
  rw [Nat.zero_add]
theorem p_truths13 {r : Run} (hr : ROk r) : F_ref13_truths n r = some (truthsC r) := by
  have hnm := hr.nm; have hnb := hr.nb
  have hcl := cases_len hr
  have hl := loop_fold (step := F_ref13_truths_s1 n r (casesS r.Blows)) (casesS r.Blows) (fun i (s : List (List Int)) => ((i : Int), s)) (fun s c => if truthC r c = true then s ++ [c] else s) (fun s => s) (fun i s => s.length ≤ i) (n := n) [] (Nat.le_refl _) (fun i c s hf hk => by
    have hi : i < (casesS r.Blows).length := (List.getElem?_eq_some_iff.1 hf).1
    have hc := casesS_len (List.mem_of_getElem? hf)
    have e : lim (s ++ [c]) = some (s ++ [c]) := lim_ok (by simp; omega)
    simp only [F_ref13_truths_s1, lt_nat, hi, decide_true, if_true, geti_nat, hf, p_Wrongs hn (r := r) (c := c) (by omega) (by omega), Option.bind_some, w64_nat (show i ≤ 4611686018427387904 by omega), e]
    show _ = _ ∧ _
    by_cases h : truthC r c = true
    · have h' : decide ((wrongC r.Meters c : Int) ≤ r.Wrong) = true := h
      simp only [h, h', if_true, Option.bind_some]; exact ⟨trivial, by simp; omega⟩
    · have h' : ¬ decide ((wrongC r.Meters c : Int) ≤ r.Wrong) = true := h
      simp only [h, h', Bool.false_eq_true, if_false, Option.bind_some]; exact ⟨trivial, by omega⟩) (fun s hk => by
    simp [F_ref13_truths_s1]) (by omega)
  have h1 := hl.1
  rw [foldl_filter', List.nil_append] at h1
  simp only [F_ref13_truths, p_cases0 hn hr, Option.bind_some]
  rw [show (0 : Int) = ((0 : Nat) : Int) from rfl, h1]; rfl
def knownT (r : Run) (is : Bool) : List (List Int) × Int := if errR r is = 0 then (truthsC r, 0) else ([], errR r is)
theorem p_known {r : Run} (hs : SmallR r) (is : Bool) : F_ref13_known n r is = some (knownT r is) := by
  simp only [F_ref13_known, p_Check13 (n := n) (by omega) hs, Option.bind_some]
  by_cases hc : checkR r = 0
  · have hr := checkR_ok.1 hc
    rw [hc]
    simp only [bne_self_eq_false, Bool.false_eq_true, if_false]
    unfold knownT errR
    simp only [hc, ne_eq, not_true_eq_false, if_false]
    cases is with
    | false => simp
    | true =>
      simp only [Bool.not_true, Bool.false_eq_true, if_false, p_truths13 hn hr, Option.bind_some, reduceCtorEq]
      by_cases h : truthsC r = []
      · simp [h]
      · have : ((truthsC r).length : Int) ≠ 0 := by simpa using h
        simp [h]
  · have : (checkR r != 0) = true := by simpa using hc
    simp only [this, if_true]
    unfold knownT errR
    simp [hc]
end
end Go.Proofs.Yteihdclpiekmaaa
end
section
namespace Go.Dec
open Go Go.RowKit
theorem Kept.plain {H : Hp} {w w' : World} (h : Kept H w w') (hh : H.hole = none) : Below w.heap.size w w' :=
  ⟨h.below.os, h.below.tape, h.below.output, h.below.size, fun k hk => h.below.block k hk (fun I e => by rw [hh] at e; cases e)⟩
end Go.Dec
end
section
namespace Go.Proofs.Yteihdclpiekmaaa
open Go Go.RowKit Go.Dec
set_option linter.unusedVariables false
def W_Span (x : Span) : Prop := I64 x.Low ∧ I64 x.High
set_option maxRecDepth 100000 in
theorem o_Span {T : Type} {enc : TypeId × Value → T} : Opens enc Try.prog 39 2 R_Span W_Span := by
  intro w base sp held fuel cs y h
  obtain ⟨xs, n, _, rfl, hl, hlen, hf⟩ := DataW.trod_struct Try.underlying39 h
  have hl2 : cs.length = 2 := hl.trans (by kernel_rfl)
  have hx : xs.length = 2 := hlen
  obtain ⟨c0, c1, rfl⟩ : ∃ c0 c1, cs = [c0, c1] := by
    match cs, hl2 with
    | [c0, c1], _ => exact ⟨_, _, rfl⟩
  have co3 : Try.prog.cellsOf 3 = 1 := by kernel_rfl
  have e0 : DataW.trod enc Try.prog w base sp held n 3 (([c0, c1].drop 0).take (Try.prog.cellsOf 3)) = xs[0]? := hf 0 _ rfl
  rw [co3] at e0
  obtain ⟨_, x0, r0, w0⟩ := (Opens.int (by kernel_rfl)) _ _ _ _ _ _ _ (e0.trans (List.getElem?_eq_getElem (by omega)))
  have e1 : DataW.trod enc Try.prog w base sp held n 3 (([c0, c1].drop 1).take (Try.prog.cellsOf 3)) = xs[1]? := hf 1 _ rfl
  rw [co3] at e1
  obtain ⟨_, x1, r1, w1⟩ := (Opens.int (by kernel_rfl)) _ _ _ _ _ _ _ (e1.trans (List.getElem?_eq_getElem (by omega)))
  have q0 : [c0] = [_] := r0
  cases q0
  have q1 : [c1] = [_] := r1
  cases q1
  exact ⟨rfl, ⟨x0, x1⟩, rfl, w0, w1⟩
def W_Frac (x : Frac) : Prop := I64 x.Num ∧ I64 x.Den
set_option maxRecDepth 100000 in
theorem o_Frac {T : Type} {enc : TypeId × Value → T} : Opens enc Try.prog 51 2 R_Frac W_Frac := by
  intro w base sp held fuel cs y h
  obtain ⟨xs, n, _, rfl, hl, hlen, hf⟩ := DataW.trod_struct Try.underlying51 h
  have hl2 : cs.length = 2 := hl.trans (by kernel_rfl)
  have hx : xs.length = 2 := hlen
  obtain ⟨c0, c1, rfl⟩ : ∃ c0 c1, cs = [c0, c1] := by
    match cs, hl2 with
    | [c0, c1], _ => exact ⟨_, _, rfl⟩
  have co3 : Try.prog.cellsOf 3 = 1 := by kernel_rfl
  have e0 : DataW.trod enc Try.prog w base sp held n 3 (([c0, c1].drop 0).take (Try.prog.cellsOf 3)) = xs[0]? := hf 0 _ rfl
  rw [co3] at e0
  obtain ⟨_, x0, r0, w0⟩ := (Opens.int (by kernel_rfl)) _ _ _ _ _ _ _ (e0.trans (List.getElem?_eq_getElem (by omega)))
  have e1 : DataW.trod enc Try.prog w base sp held n 3 (([c0, c1].drop 1).take (Try.prog.cellsOf 3)) = xs[1]? := hf 1 _ rfl
  rw [co3] at e1
  obtain ⟨_, x1, r1, w1⟩ := (Opens.int (by kernel_rfl)) _ _ _ _ _ _ _ (e1.trans (List.getElem?_eq_getElem (by omega)))
  have q0 : [c0] = [_] := r0
  cases q0
  have q1 : [c1] = [_] := r1
  cases q1
  exact ⟨rfl, ⟨x0, x1⟩, rfl, w0, w1⟩
def W_Section (x : Section) : Prop := W_Span x.Arm ∧ W_Span x.Stretch ∧ I64 x.Base ∧ W_Frac x.Gear
set_option maxRecDepth 100000 in
theorem o_Section {T : Type} {enc : TypeId × Value → T} : Opens enc Try.prog 68 7 R_Section W_Section := by
  intro w base sp held fuel cs y h
  obtain ⟨xs, n, _, rfl, hl, hlen, hf⟩ := DataW.trod_struct Try.underlying68 h
  have hl2 : cs.length = 7 := hl.trans (by kernel_rfl)
  have hx : xs.length = 4 := hlen
  obtain ⟨c0, c1, c2, c3, c4, c5, c6, rfl⟩ : ∃ c0 c1 c2 c3 c4 c5 c6, cs = [c0, c1, c2, c3, c4, c5, c6] := by
    match cs, hl2 with
    | [c0, c1, c2, c3, c4, c5, c6], _ => exact ⟨_, _, _, _, _, _, _, rfl⟩
  have co3 : Try.prog.cellsOf 3 = 1 := by kernel_rfl
  have co39 : Try.prog.cellsOf 39 = 2 := by kernel_rfl
  have co51 : Try.prog.cellsOf 51 = 2 := by kernel_rfl
  have e0 : DataW.trod enc Try.prog w base sp held n 39 (([c0, c1, c2, c3, c4, c5, c6].drop 0).take (Try.prog.cellsOf 39)) = xs[0]? := hf 0 _ rfl
  rw [co39] at e0
  obtain ⟨_, x0, r0, w0⟩ := o_Span _ _ _ _ _ _ _ (e0.trans (List.getElem?_eq_getElem (by omega)))
  have e1 : DataW.trod enc Try.prog w base sp held n 39 (([c0, c1, c2, c3, c4, c5, c6].drop 2).take (Try.prog.cellsOf 39)) = xs[1]? := hf 1 _ rfl
  rw [co39] at e1
  obtain ⟨_, x1, r1, w1⟩ := o_Span _ _ _ _ _ _ _ (e1.trans (List.getElem?_eq_getElem (by omega)))
  have e2 : DataW.trod enc Try.prog w base sp held n 3 (([c0, c1, c2, c3, c4, c5, c6].drop 4).take (Try.prog.cellsOf 3)) = xs[2]? := hf 2 _ rfl
  rw [co3] at e2
  obtain ⟨_, x2, r2, w2⟩ := (Opens.int (by kernel_rfl)) _ _ _ _ _ _ _ (e2.trans (List.getElem?_eq_getElem (by omega)))
  have e3 : DataW.trod enc Try.prog w base sp held n 51 (([c0, c1, c2, c3, c4, c5, c6].drop 5).take (Try.prog.cellsOf 51)) = xs[3]? := hf 3 _ rfl
  rw [co51] at e3
  obtain ⟨_, x3, r3, w3⟩ := o_Frac _ _ _ _ _ _ _ (e3.trans (List.getElem?_eq_getElem (by omega)))
  have q0 : [c0, c1] = _ := r0
  cases q0
  have q1 : [c2, c3] = _ := r1
  cases q1
  have q2 : [c4] = [_] := r2
  cases q2
  have q3 : [c5, c6] = _ := r3
  cases q3
  exact ⟨rfl, ⟨x0, x1, x2, x3⟩, rfl, w0, w1, w2, w3⟩
def W_Frame (x : Frame) : Prop := (fun (l : List Section) => (∀ x ∈ l, W_Section x) ∧ l.length ≤ 9223372036854775807) x.Sections ∧ I64 x.Low ∧ I64 x.High ∧ W_Frac x.Ease ∧ I64 x.Rod ∧ I64 x.Case
set_option maxRecDepth 100000 in
theorem o_Frame {T : Type} {enc : TypeId × Value → T} : Opens enc Try.prog 53 7 R_Frame W_Frame := by
  intro w base sp held fuel cs y h
  obtain ⟨xs, n, _, rfl, hl, hlen, hf⟩ := DataW.trod_struct Try.underlying53 h
  have hl2 : cs.length = 7 := hl.trans (by kernel_rfl)
  have hx : xs.length = 6 := hlen
  obtain ⟨c0, c1, c2, c3, c4, c5, c6, rfl⟩ : ∃ c0 c1 c2 c3 c4 c5 c6, cs = [c0, c1, c2, c3, c4, c5, c6] := by
    match cs, hl2 with
    | [c0, c1, c2, c3, c4, c5, c6], _ => exact ⟨_, _, _, _, _, _, _, rfl⟩
  have co3 : Try.prog.cellsOf 3 = 1 := by kernel_rfl
  have co49 : Try.prog.cellsOf 49 = 1 := by kernel_rfl
  have co51 : Try.prog.cellsOf 51 = 2 := by kernel_rfl
  have e0 : DataW.trod enc Try.prog w base sp held n 49 (([c0, c1, c2, c3, c4, c5, c6].drop 0).take (Try.prog.cellsOf 49)) = xs[0]? := hf 0 _ rfl
  rw [co49] at e0
  obtain ⟨_, x0, r0, w0⟩ := (Opens.slice (e := 68) (sz := 7) (by kernel_rfl) (by kernel_rfl) rfl o_Section) _ _ _ _ _ _ _ (e0.trans (List.getElem?_eq_getElem (by omega)))
  have e1 : DataW.trod enc Try.prog w base sp held n 3 (([c0, c1, c2, c3, c4, c5, c6].drop 1).take (Try.prog.cellsOf 3)) = xs[1]? := hf 1 _ rfl
  rw [co3] at e1
  obtain ⟨_, x1, r1, w1⟩ := (Opens.int (by kernel_rfl)) _ _ _ _ _ _ _ (e1.trans (List.getElem?_eq_getElem (by omega)))
  have e2 : DataW.trod enc Try.prog w base sp held n 3 (([c0, c1, c2, c3, c4, c5, c6].drop 2).take (Try.prog.cellsOf 3)) = xs[2]? := hf 2 _ rfl
  rw [co3] at e2
  obtain ⟨_, x2, r2, w2⟩ := (Opens.int (by kernel_rfl)) _ _ _ _ _ _ _ (e2.trans (List.getElem?_eq_getElem (by omega)))
  have e3 : DataW.trod enc Try.prog w base sp held n 51 (([c0, c1, c2, c3, c4, c5, c6].drop 3).take (Try.prog.cellsOf 51)) = xs[3]? := hf 3 _ rfl
  rw [co51] at e3
  obtain ⟨_, x3, r3, w3⟩ := o_Frac _ _ _ _ _ _ _ (e3.trans (List.getElem?_eq_getElem (by omega)))
  have e4 : DataW.trod enc Try.prog w base sp held n 3 (([c0, c1, c2, c3, c4, c5, c6].drop 5).take (Try.prog.cellsOf 3)) = xs[4]? := hf 4 _ rfl
  rw [co3] at e4
  obtain ⟨_, x4, r4, w4⟩ := (Opens.int (by kernel_rfl)) _ _ _ _ _ _ _ (e4.trans (List.getElem?_eq_getElem (by omega)))
  have e5 : DataW.trod enc Try.prog w base sp held n 3 (([c0, c1, c2, c3, c4, c5, c6].drop 6).take (Try.prog.cellsOf 3)) = xs[5]? := hf 5 _ rfl
  rw [co3] at e5
  obtain ⟨_, x5, r5, w5⟩ := (Opens.int (by kernel_rfl)) _ _ _ _ _ _ _ (e5.trans (List.getElem?_eq_getElem (by omega)))
  obtain ⟨v0, q0, s0⟩ := r0
  have q0 : [c0] = [v0] := q0
  cases q0
  have q1 : [c1] = [_] := r1
  cases q1
  have q2 : [c2] = [_] := r2
  cases q2
  have q3 : [c3, c4] = _ := r3
  cases q3
  have q4 : [c5] = [_] := r4
  cases q4
  have q5 : [c6] = [_] := r5
  cases q5
  exact ⟨rfl, ⟨x0, x1, x2, x3, x4, x5⟩, ⟨c0, rfl, s0⟩, w0, w1, w2, w3, w4, w5⟩
def W_Canopy (x : Canopy) : Prop := W_Frame x.Frame ∧ (fun (l : List Span) => (∀ x ∈ l, W_Span x) ∧ l.length ≤ 9223372036854775807) x.Ribs ∧ (fun (l : List Int) => (∀ x ∈ l, I64 x) ∧ l.length ≤ 9223372036854775807) x.Shares
set_option maxRecDepth 100000 in
theorem o_Canopy {T : Type} {enc : TypeId × Value → T} : Opens enc Try.prog 76 9 R_Canopy W_Canopy := by
  intro w base sp held fuel cs y h
  obtain ⟨xs, n, _, rfl, hl, hlen, hf⟩ := DataW.trod_struct Try.underlying76 h
  have hl2 : cs.length = 9 := hl.trans (by kernel_rfl)
  have hx : xs.length = 3 := hlen
  obtain ⟨c0, c1, c2, c3, c4, c5, c6, c7, c8, rfl⟩ : ∃ c0 c1 c2 c3 c4 c5 c6 c7 c8, cs = [c0, c1, c2, c3, c4, c5, c6, c7, c8] := by
    match cs, hl2 with
    | [c0, c1, c2, c3, c4, c5, c6, c7, c8], _ => exact ⟨_, _, _, _, _, _, _, _, _, rfl⟩
  have co23 : Try.prog.cellsOf 23 = 1 := by kernel_rfl
  have co24 : Try.prog.cellsOf 24 = 1 := by kernel_rfl
  have co53 : Try.prog.cellsOf 53 = 7 := by kernel_rfl
  have e0 : DataW.trod enc Try.prog w base sp held n 53 (([c0, c1, c2, c3, c4, c5, c6, c7, c8].drop 0).take (Try.prog.cellsOf 53)) = xs[0]? := hf 0 _ rfl
  rw [co53] at e0
  obtain ⟨_, x0, r0, w0⟩ := o_Frame _ _ _ _ _ _ _ (e0.trans (List.getElem?_eq_getElem (by omega)))
  have e1 : DataW.trod enc Try.prog w base sp held n 24 (([c0, c1, c2, c3, c4, c5, c6, c7, c8].drop 7).take (Try.prog.cellsOf 24)) = xs[1]? := hf 1 _ rfl
  rw [co24] at e1
  obtain ⟨_, x1, r1, w1⟩ := (Opens.slice (e := 39) (sz := 2) (by kernel_rfl) (by kernel_rfl) rfl o_Span) _ _ _ _ _ _ _ (e1.trans (List.getElem?_eq_getElem (by omega)))
  have e2 : DataW.trod enc Try.prog w base sp held n 23 (([c0, c1, c2, c3, c4, c5, c6, c7, c8].drop 8).take (Try.prog.cellsOf 23)) = xs[2]? := hf 2 _ rfl
  rw [co23] at e2
  obtain ⟨_, x2, r2, w2⟩ := (Opens.slice (e := 3) (sz := 1) (by kernel_rfl) (by kernel_rfl) rfl (Opens.int (by kernel_rfl))) _ _ _ _ _ _ _ (e2.trans (List.getElem?_eq_getElem (by omega)))
  obtain ⟨v0_0, q0, s0_0⟩ := r0
  cases q0
  obtain ⟨v1, q1, s1⟩ := r1
  have q1 : [c7] = [v1] := q1
  cases q1
  obtain ⟨v2, q2, s2⟩ := r2
  have q2 : [c8] = [v2] := q2
  cases q2
  exact ⟨rfl, ⟨x0, x1, x2⟩, ⟨c0, c7, c8, rfl, s0_0, s1, s2⟩, w0, w1, w2⟩
def W_Blow (x : Blow) : Prop := I64 x.At ∧ W_Span x.Force
set_option maxRecDepth 100000 in
theorem o_Blow {T : Type} {enc : TypeId × Value → T} : Opens enc Try.prog 98 3 R_Blow W_Blow := by
  intro w base sp held fuel cs y h
  obtain ⟨xs, n, _, rfl, hl, hlen, hf⟩ := DataW.trod_struct Try.underlying98 h
  have hl2 : cs.length = 3 := hl.trans (by kernel_rfl)
  have hx : xs.length = 2 := hlen
  obtain ⟨c0, c1, c2, rfl⟩ : ∃ c0 c1 c2, cs = [c0, c1, c2] := by
    match cs, hl2 with
    | [c0, c1, c2], _ => exact ⟨_, _, _, rfl⟩
  have co3 : Try.prog.cellsOf 3 = 1 := by kernel_rfl
  have co39 : Try.prog.cellsOf 39 = 2 := by kernel_rfl
  have e0 : DataW.trod enc Try.prog w base sp held n 3 (([c0, c1, c2].drop 0).take (Try.prog.cellsOf 3)) = xs[0]? := hf 0 _ rfl
  rw [co3] at e0
  obtain ⟨_, x0, r0, w0⟩ := (Opens.int (by kernel_rfl)) _ _ _ _ _ _ _ (e0.trans (List.getElem?_eq_getElem (by omega)))
  have e1 : DataW.trod enc Try.prog w base sp held n 39 (([c0, c1, c2].drop 1).take (Try.prog.cellsOf 39)) = xs[1]? := hf 1 _ rfl
  rw [co39] at e1
  obtain ⟨_, x1, r1, w1⟩ := o_Span _ _ _ _ _ _ _ (e1.trans (List.getElem?_eq_getElem (by omega)))
  have q0 : [c0] = [_] := r0
  cases q0
  have q1 : [c1, c2] = _ := r1
  cases q1
  exact ⟨rfl, ⟨x0, x1⟩, rfl, w0, w1⟩
def W_Meter (x : Meter) : Prop := I64 x.Limit ∧ I64 x.Count
set_option maxRecDepth 100000 in
theorem o_Meter {T : Type} {enc : TypeId × Value → T} : Opens enc Try.prog 206 2 R_Meter W_Meter := by
  intro w base sp held fuel cs y h
  obtain ⟨xs, n, _, rfl, hl, hlen, hf⟩ := DataW.trod_struct Try.underlying206 h
  have hl2 : cs.length = 2 := hl.trans (by kernel_rfl)
  have hx : xs.length = 2 := hlen
  obtain ⟨c0, c1, rfl⟩ : ∃ c0 c1, cs = [c0, c1] := by
    match cs, hl2 with
    | [c0, c1], _ => exact ⟨_, _, rfl⟩
  have co3 : Try.prog.cellsOf 3 = 1 := by kernel_rfl
  have e0 : DataW.trod enc Try.prog w base sp held n 3 (([c0, c1].drop 0).take (Try.prog.cellsOf 3)) = xs[0]? := hf 0 _ rfl
  rw [co3] at e0
  obtain ⟨_, x0, r0, w0⟩ := (Opens.int (by kernel_rfl)) _ _ _ _ _ _ _ (e0.trans (List.getElem?_eq_getElem (by omega)))
  have e1 : DataW.trod enc Try.prog w base sp held n 3 (([c0, c1].drop 1).take (Try.prog.cellsOf 3)) = xs[1]? := hf 1 _ rfl
  rw [co3] at e1
  obtain ⟨_, x1, r1, w1⟩ := (Opens.int (by kernel_rfl)) _ _ _ _ _ _ _ (e1.trans (List.getElem?_eq_getElem (by omega)))
  have q0 : [c0] = [_] := r0
  cases q0
  have q1 : [c1] = [_] := r1
  cases q1
  exact ⟨rfl, ⟨x0, x1⟩, rfl, w0, w1⟩
def W_Run (x : Run) : Prop := W_Canopy x.Canopy ∧ (fun (l : List Blow) => (∀ x ∈ l, W_Blow x) ∧ l.length ≤ 9223372036854775807) x.Blows ∧ (fun (l : List Meter) => (∀ x ∈ l, W_Meter x) ∧ l.length ≤ 9223372036854775807) x.Meters ∧ I64 x.Wrong
set_option maxRecDepth 100000 in
theorem o_Run {T : Type} {enc : TypeId × Value → T} : Opens enc Try.prog 90 12 R_Run W_Run := by
  intro w base sp held fuel cs y h
  obtain ⟨xs, n, _, rfl, hl, hlen, hf⟩ := DataW.trod_struct Try.underlying90 h
  have hl2 : cs.length = 12 := hl.trans (by kernel_rfl)
  have hx : xs.length = 4 := hlen
  obtain ⟨c0, c1, c2, c3, c4, c5, c6, c7, c8, c9, c10, c11, rfl⟩ : ∃ c0 c1 c2 c3 c4 c5 c6 c7 c8 c9 c10 c11, cs = [c0, c1, c2, c3, c4, c5, c6, c7, c8, c9, c10, c11] := by
    match cs, hl2 with
    | [c0, c1, c2, c3, c4, c5, c6, c7, c8, c9, c10, c11], _ => exact ⟨_, _, _, _, _, _, _, _, _, _, _, _, rfl⟩
  have co3 : Try.prog.cellsOf 3 = 1 := by kernel_rfl
  have co76 : Try.prog.cellsOf 76 = 9 := by kernel_rfl
  have co87 : Try.prog.cellsOf 87 = 1 := by kernel_rfl
  have co88 : Try.prog.cellsOf 88 = 1 := by kernel_rfl
  have e0 : DataW.trod enc Try.prog w base sp held n 76 (([c0, c1, c2, c3, c4, c5, c6, c7, c8, c9, c10, c11].drop 0).take (Try.prog.cellsOf 76)) = xs[0]? := hf 0 _ rfl
  rw [co76] at e0
  obtain ⟨_, x0, r0, w0⟩ := o_Canopy _ _ _ _ _ _ _ (e0.trans (List.getElem?_eq_getElem (by omega)))
  have e1 : DataW.trod enc Try.prog w base sp held n 87 (([c0, c1, c2, c3, c4, c5, c6, c7, c8, c9, c10, c11].drop 9).take (Try.prog.cellsOf 87)) = xs[1]? := hf 1 _ rfl
  rw [co87] at e1
  obtain ⟨_, x1, r1, w1⟩ := (Opens.slice (e := 98) (sz := 3) (by kernel_rfl) (by kernel_rfl) rfl o_Blow) _ _ _ _ _ _ _ (e1.trans (List.getElem?_eq_getElem (by omega)))
  have e2 : DataW.trod enc Try.prog w base sp held n 88 (([c0, c1, c2, c3, c4, c5, c6, c7, c8, c9, c10, c11].drop 10).take (Try.prog.cellsOf 88)) = xs[2]? := hf 2 _ rfl
  rw [co88] at e2
  obtain ⟨_, x2, r2, w2⟩ := (Opens.slice (e := 206) (sz := 2) (by kernel_rfl) (by kernel_rfl) rfl o_Meter) _ _ _ _ _ _ _ (e2.trans (List.getElem?_eq_getElem (by omega)))
  have e3 : DataW.trod enc Try.prog w base sp held n 3 (([c0, c1, c2, c3, c4, c5, c6, c7, c8, c9, c10, c11].drop 11).take (Try.prog.cellsOf 3)) = xs[3]? := hf 3 _ rfl
  rw [co3] at e3
  obtain ⟨_, x3, r3, w3⟩ := (Opens.int (by kernel_rfl)) _ _ _ _ _ _ _ (e3.trans (List.getElem?_eq_getElem (by omega)))
  obtain ⟨v0_0, v0_7, v0_8, q0, s0_0, s0_7, s0_8⟩ := r0
  cases q0
  obtain ⟨v1, q1, s1⟩ := r1
  have q1 : [c9] = [v1] := q1
  cases q1
  obtain ⟨v2, q2, s2⟩ := r2
  have q2 : [c10] = [v2] := q2
  cases q2
  have q3 : [c11] = [_] := r3
  cases q3
  exact ⟨rfl, ⟨x0, x1, x2, x3⟩, ⟨c0, c7, c8, c9, c10, rfl, s0_0, s0_7, s0_8, s1, s2⟩, w0, w1, w2, w3⟩
def W_top_Finer (x : top_Finer) : Prop := I64 x.ArmLow ∧ I64 x.ArmHigh ∧ I64 x.RodLow ∧ I64 x.RodHigh
set_option maxRecDepth 100000 in
theorem o_top_Finer {T : Type} {enc : TypeId × Value → T} : Opens enc Try.prog 92 4 R_top_Finer W_top_Finer := by
  intro w base sp held fuel cs y h
  obtain ⟨xs, n, _, rfl, hl, hlen, hf⟩ := DataW.trod_struct Try.underlying92 h
  have hl2 : cs.length = 4 := hl.trans (by kernel_rfl)
  have hx : xs.length = 4 := hlen
  obtain ⟨c0, c1, c2, c3, rfl⟩ : ∃ c0 c1 c2 c3, cs = [c0, c1, c2, c3] := by
    match cs, hl2 with
    | [c0, c1, c2, c3], _ => exact ⟨_, _, _, _, rfl⟩
  have co3 : Try.prog.cellsOf 3 = 1 := by kernel_rfl
  have e0 : DataW.trod enc Try.prog w base sp held n 3 (([c0, c1, c2, c3].drop 0).take (Try.prog.cellsOf 3)) = xs[0]? := hf 0 _ rfl
  rw [co3] at e0
  obtain ⟨_, x0, r0, w0⟩ := (Opens.int (by kernel_rfl)) _ _ _ _ _ _ _ (e0.trans (List.getElem?_eq_getElem (by omega)))
  have e1 : DataW.trod enc Try.prog w base sp held n 3 (([c0, c1, c2, c3].drop 1).take (Try.prog.cellsOf 3)) = xs[1]? := hf 1 _ rfl
  rw [co3] at e1
  obtain ⟨_, x1, r1, w1⟩ := (Opens.int (by kernel_rfl)) _ _ _ _ _ _ _ (e1.trans (List.getElem?_eq_getElem (by omega)))
  have e2 : DataW.trod enc Try.prog w base sp held n 3 (([c0, c1, c2, c3].drop 2).take (Try.prog.cellsOf 3)) = xs[2]? := hf 2 _ rfl
  rw [co3] at e2
  obtain ⟨_, x2, r2, w2⟩ := (Opens.int (by kernel_rfl)) _ _ _ _ _ _ _ (e2.trans (List.getElem?_eq_getElem (by omega)))
  have e3 : DataW.trod enc Try.prog w base sp held n 3 (([c0, c1, c2, c3].drop 3).take (Try.prog.cellsOf 3)) = xs[3]? := hf 3 _ rfl
  rw [co3] at e3
  obtain ⟨_, x3, r3, w3⟩ := (Opens.int (by kernel_rfl)) _ _ _ _ _ _ _ (e3.trans (List.getElem?_eq_getElem (by omega)))
  have q0 : [c0] = [_] := r0
  cases q0
  have q1 : [c1] = [_] := r1
  cases q1
  have q2 : [c2] = [_] := r2
  cases q2
  have q3 : [c3] = [_] := r3
  cases q3
  exact ⟨rfl, ⟨x0, x1, x2, x3⟩, rfl, w0, w1, w2, w3⟩
end Go.Proofs.Yteihdclpiekmaaa
end
