/-
  A part of the proof of MiMirror: the texts MiLaa, MiLab, MiLac, MiLad, EngN, MiOpn, MiLae, MiLaf, MiLam.
-/
import Derived.Test.YtflhjlgimihmgaaJMiMirror6
import Derived.OpenShut
section
namespace Go.Proofs.Ytflhjlgimihmgaa
open Go Go.RowKit Go.Dec
/-- a loop over a list that may be left early -/
theorem loop_list {S R α β : Type} {step : S → Option (S ⊕ R)} (l : List α) (enc : Nat → β → S) (I : Nat → β → Prop) (Post : R → Prop) {n : Nat} (b0 : β) (h0 : I 0 b0)
    (h : ∀ i x b, l[i]? = some x → I i b → (∃ b', step (enc i b) = some (.inl (enc (i + 1) b')) ∧ I (i + 1) b') ∨ (∃ r, step (enc i b) = some (.inr r) ∧ Post r))
    (hd : ∀ b, I l.length b → ∃ r, step (enc l.length b) = some (.inr r) ∧ Post r) (hn : l.length < n) : ∃ r, loopO n step (enc 0 b0) = some r ∧ Post r := by
  have key : ∀ (k i : Nat) (b : β) (n : Nat), i + k = l.length → I i b → k < n → ∃ r, loopO n step (enc i b) = some r ∧ Post r := by
    intro k
    induction k with
    | zero =>
      intro i b n hi hI hn
      have e : i = l.length := by omega
      subst e
      obtain ⟨r, hr, hp⟩ := hd b hI
      exact ⟨r, loop_done hr hn, hp⟩
    | succ k ih =>
      intro i b n hi hI hn
      obtain ⟨m, rfl⟩ : ∃ k, n = k + 1 := ⟨n - 1, by omega⟩
      have hlt : i < l.length := by omega
      rcases h i l[i] b (List.getElem?_eq_getElem hlt) hI with ⟨b', h1, h2⟩ | ⟨r, h1, h2⟩
      · rw [loopO_succ, h1]
        exact ih (i + 1) b' m (by omega) h2 (by omega)
      · exact ⟨r, by rw [loopO_succ, h1], h2⟩
  exact key l.length 0 b0 n (by omega) h0 hn
/-- .. over numbers -/
theorem loop_nats {S R β : Type} {step : S → Option (S ⊕ R)} (k : Nat) (enc : Nat → β → S) (I : Nat → β → Prop) (Post : R → Prop) {n : Nat} (b0 : β) (h0 : I 0 b0)
    (h : ∀ i b, i < k → I i b → (∃ b', step (enc i b) = some (.inl (enc (i + 1) b')) ∧ I (i + 1) b') ∨ (∃ r, step (enc i b) = some (.inr r) ∧ Post r))
    (hd : ∀ b, I k b → ∃ r, step (enc k b) = some (.inr r) ∧ Post r) (hn : k < n) : ∃ r, loopO n step (enc 0 b0) = some r ∧ Post r := by
  have := loop_list (step := step) (List.range k) enc I Post b0 h0 (fun i x b hx hI => h i b (by have := (List.getElem?_eq_some_iff.1 hx).1; simpa using this) hI) (fun b hI => by rw [List.length_range] at hI ⊢; exact hd b hI) (n := n) (by simpa using hn)
  exact this
theorem cell_ext {a b : Cell} (h1 : a.Row = b.Row) (h2 : a.Col = b.Col) : a = b := by
  obtain ⟨r, c⟩ := a; obtain ⟨r', c'⟩ := b; simp only at h1 h2; subst h1; subst h2; rfl
def cellE (a b : Cell) : Bool := a.Row == b.Row && a.Col == b.Col
theorem cellE_t {a b : Cell} : cellE a b = true ↔ a = b := by
  simp only [cellE, Bool.and_eq_true, beq_iff_eq]
  exact ⟨fun h => cell_ext h.1 h.2, fun h => by subst h; exact ⟨rfl, rfl⟩⟩
def inB (l : List Cell) (c : Cell) : Bool := l.any fun x => cellE x c
theorem inB_t {l : List Cell} {c : Cell} : inB l c = true ↔ c ∈ l := by
  simp only [inB, List.any_eq_true, cellE_t]
  exact ⟨fun ⟨x, h, e⟩ => e ▸ h, fun h => ⟨c, h, rfl⟩⟩
theorem inB_f {l : List Cell} {c : Cell} : inB l c = false ↔ c ∉ l := by rw [← inB_t]; cases inB l c <;> simp
section
variable {n : Nat}
theorem dlt (i : Nat) (k : Nat) : decide ((i : Int) < (k : Int)) = decide (i < k) := by simp
theorem p_within (x a b : Int) : F_ref03_within n x a b = some (decide (a ≤ x) && decide (x ≤ b)) := rfl
theorem p_lwithin (x a b : Int) : F_lays_within n x a b = some (decide (a ≤ x) && decide (x ≤ b)) := rfl
theorem p_In (hn : 1000000 ≤ n) (l : List Cell) (hl : l.length ≤ 10000) (c : Cell) : F_ref03_In n l c = some (inB l c) := by
  rw [F_ref03_In]
  have := loop_all_l (step := F_ref03_In_s1 n l c) l (fun x => !cellE x c) true (n := n) (by omega) (fun i x hx hi => by
    rw [F_ref03_In_s1, dlt, decide_eq_true hi, geti_nat, hx]
    simp only [if_true, Option.bind_some, w64_nat (show i ≤ 4611686018427387904 by omega), cellE]
    cases (x.Row == c.Row && x.Col == c.Col) <;> rfl) (by rw [F_ref03_In_s1, dlt]; simp) (by omega)
  rw [this]
  have e : inB l c = !(l.all fun x => !cellE x c) := by
    simp only [inB, List.any_eq_not_all_not]
  rw [e]
  cases l.all fun x => !cellE x c <;> rfl
def InC (s : Lap) (c : Cell) : Prop := (0 ≤ c.Row ∧ c.Row ≤ s.Length - 1) ∧ (0 ≤ c.Col ∧ c.Col ≤ s.Width - 1)
def cellB (s : Lap) (c : Cell) : Bool := (decide (0 ≤ c.Row) && decide (c.Row ≤ s.Length - 1)) && (decide (0 ≤ c.Col) && decide (c.Col ≤ s.Width - 1))
theorem cellB_t {s : Lap} {c : Cell} : cellB s c = true ↔ InC s c := by simp [cellB, InC]
def AreC (s : Lap) (l others : List Cell) : Prop := (∀ c ∈ l, InC s c ∧ c ∉ others) ∧ l.Nodup ∧ l.length ≤ 20
structure VPn (p : Panel) : Prop where
  n : 1 ≤ p.Rows.length ∧ p.Rows.length ≤ 4
  r : ∀ s ∈ p.Rows, 0 ≤ s.Low ∧ s.Low ≤ s.High ∧ s.High ≤ 7
  z : ∃ s ∈ p.Rows, s.Low = 0
structure VL (s : Lap) : Prop where
  w : 1 ≤ s.Width ∧ s.Width ≤ 8
  l : 1 ≤ s.Length ∧ s.Length ≤ 12
  fa : AreC s s.Faults []
  fl : AreC s s.Flaws s.Faults
  np : s.Panels.length ≤ 5
  p : ∀ p ∈ s.Panels, VPn p
/-- not far too much of anything -/
structure Small (s : Lap) : Prop where
  fa : s.Faults.length ≤ 40
  fl : s.Flaws.length ≤ 40
  np : s.Panels.length ≤ 20
  p : ∀ p ∈ s.Panels, p.Rows.length ≤ 20
theorem p_IsCell {s : Lap} (hl : 1 ≤ s.Length ∧ s.Length ≤ 12) (hw : 1 ≤ s.Width ∧ s.Width ≤ 8) (c : Cell) : F_ref03_IsCell n s c = some (cellB s c) := by
  rw [F_ref03_IsCell, p_within, p_within, w64_id (by omega) (by omega), w64_id (by omega) (by omega)]
  simp only [Option.bind_some, cellB]
  cases (decide (0 ≤ c.Row) && decide (c.Row ≤ s.Length - 1)) <;> rfl
theorem nodup_iff_take {α : Type} {l : List α} : l.Nodup ↔ ∀ i x, l[i]? = some x → x ∉ l.take i := by
  constructor
  · intro h i x hx hm
    obtain ⟨j, hj⟩ := List.mem_iff_getElem?.1 hm
    rw [List.getElem?_take] at hj
    split at hj
    · rename_i hlt
      obtain ⟨h1, h2⟩ := List.getElem?_eq_some_iff.1 hx
      obtain ⟨h3, h4⟩ := List.getElem?_eq_some_iff.1 hj
      exact List.pairwise_iff_getElem.1 h j i h3 h1 hlt (by rw [h4, h2])
    · cases hj
  · intro h
    refine List.pairwise_iff_getElem.2 fun i j hi hj hij e => ?_
    exact h j l[j] (List.getElem?_eq_getElem hj) (List.mem_iff_getElem?.2 ⟨i, by rw [List.getElem?_take, if_pos hij, List.getElem?_eq_getElem hi, e]⟩)
theorem p_areCells (hn : 1000000 ≤ n) {s : Lap} (hl : 1 ≤ s.Length ∧ s.Length ≤ 12) (hw : 1 ≤ s.Width ∧ s.Width ≤ 8) (l others : List Cell) (h1 : l.length ≤ 40) (h2 : others.length ≤ 40) :
    ∃ b, F_ref03_areCells n s l others = some b ∧ (b = true ↔ AreC s l others) := by
  rw [F_ref03_areCells]
  obtain ⟨r, hr, hp⟩ := loop_list (step := F_ref03_areCells_s1 n s l others) l (fun i (_ : Unit) => (i : Int)) (fun i _ => ∀ j x, j < i → l[j]? = some x → (InC s x ∧ x ∉ others) ∧ x ∉ l.take j)
    (fun r => match r with | .inl b => b = false ∧ ¬ AreC s l others | .inr _ => ∀ j x, l[j]? = some x → (InC s x ∧ x ∉ others) ∧ x ∉ l.take j) (n := n) () (by intro j x h; omega) (fun i x _ hx hI => by
      have hi := (List.getElem?_eq_some_iff.1 hx).1
      rw [F_ref03_areCells_s1, dlt, decide_eq_true hi, geti_nat, hx]
      have hslc : slc l 0 (i : Int) = some (l.take i) := by
        unfold slc; rw [if_pos ⟨by omega, by omega, by omega⟩]; simp
      simp only [if_true, Option.bind_some, p_IsCell hl hw, hslc, p_In hn (l.take i) (by rw [List.length_take]; omega), p_In hn others (by omega), w64_nat (show i ≤ 4611686018427387904 by omega)]
      by_cases hb : (InC s x ∧ x ∉ others) ∧ x ∉ l.take i
      · refine .inl ⟨(), ?_, fun j y hj hy => ?_⟩
        · rw [cellB_t.2 hb.1.1, inB_f.2 hb.1.2, inB_f.2 hb.2]; rfl
        · rcases Nat.lt_or_ge j i with h | h
          · exact hI j y h hy
          · obtain rfl : j = i := by omega
            rw [hx] at hy; cases hy; exact hb
      · refine .inr ⟨.inl false, ?_, rfl, fun hA => hb ⟨hA.1 x (List.mem_of_getElem? hx), nodup_iff_take.1 hA.2.1 i x hx⟩⟩
        cases h3 : cellB s x with
        | false => rfl
        | true =>
          cases h4 : inB (l.take i) x with
          | true => rfl
          | false =>
            cases h5 : inB others x with
            | true => rfl
            | false => exact absurd ⟨⟨cellB_t.1 h3, inB_f.1 h5⟩, inB_f.1 h4⟩ hb) (fun _ hI => by
      refine ⟨.inr (), by rw [F_ref03_areCells_s1, dlt]; simp, fun j x hx => hI j x (List.getElem?_eq_some_iff.1 hx).1 hx⟩) (by omega)
  rw [show ((0 : Int)) = ((0 : Nat) : Int) from rfl, hr]
  cases r with
  | inl b => exact ⟨b, rfl, by rw [hp.1]; simp; exact hp.2⟩
  | inr u =>
    refine ⟨_, rfl, ?_⟩
    rw [decide_eq_true_iff]
    constructor
    · intro h
      refine ⟨fun c hc => ?_, nodup_iff_take.2 fun i x hx => (hp i x hx).2, by omega⟩
      obtain ⟨i, hi⟩ := List.mem_iff_getElem?.1 hc
      exact (hp i c hi).1
    · intro h; have := h.2.2; omega
theorem p_isPanel (hn : 1000000 ≤ n) (p : Panel) (hp : p.Rows.length ≤ 20) : ∃ b, F_ref03_isPanel n p = some b ∧ (b = true ↔ VPn p) := by
  rw [F_ref03_isPanel]
  obtain ⟨r, hr, hpost⟩ := loop_list (step := F_ref03_isPanel_s1 n p) p.Rows (fun i (m : Int) => (m, (i : Int)))
    (fun i m => (∀ j x, j < i → p.Rows[j]? = some x → 0 ≤ x.Low ∧ x.Low ≤ x.High ∧ x.High ≤ 7) ∧ (0 ≤ m) ∧ (m = 0 ↔ ∃ j x, j < i ∧ p.Rows[j]? = some x ∧ x.Low = 0))
    (fun r => match r with | .inl b => b = false ∧ ¬ VPn p | .inr m => (∀ s ∈ p.Rows, 0 ≤ s.Low ∧ s.Low ≤ s.High ∧ s.High ≤ 7) ∧ (m = 0 ↔ ∃ s ∈ p.Rows, s.Low = 0)) (n := n) 8 ⟨by intro j x h; omega, by decide, by constructor <;> intro h; omega; obtain ⟨j, _, h, _⟩ := h; omega⟩ (fun i x m hx hI => by
      have hi := (List.getElem?_eq_some_iff.1 hx).1
      rw [F_ref03_isPanel_s1, dlt, decide_eq_true hi, geti_nat, hx]
      simp only [if_true, Option.bind_some, p_within, w64_nat (show i ≤ 4611686018427387904 by omega)]
      by_cases hb : 0 ≤ x.Low ∧ x.Low ≤ x.High ∧ x.High ≤ 7
      · refine .inl ⟨min m x.Low, ?_, fun j y hj hy => ?_, by omega, ?_⟩
        · rw [decide_eq_true hb.1, decide_eq_true hb.2.1, decide_eq_false (show ¬ 7 < x.High by omega)]; rfl
        · rcases Nat.lt_or_ge j i with h | h
          · exact hI.1 j y h hy
          · obtain rfl : j = i := by omega
            rw [hx] at hy; cases hy; exact hb
        · constructor
          · intro h
            by_cases hm : m = 0
            · obtain ⟨j, y, h1, h2, h3⟩ := hI.2.2.1 hm
              exact ⟨j, y, by omega, h2, h3⟩
            · exact ⟨i, x, by omega, hx, by have := hI.2.1; omega⟩
          · rintro ⟨j, y, h1, h2, h3⟩
            rcases Nat.lt_or_ge j i with h | h
            · have := hI.2.2.2 ⟨j, y, h, h2, h3⟩; omega
            · obtain rfl : j = i := by omega
              rw [hx] at h2; cases h2; have := hI.2.1; omega
      · refine .inr ⟨.inl false, ?_, rfl, fun hA => hb (hA.r x (List.mem_of_getElem? hx))⟩
        by_cases h1 : 0 ≤ x.Low
        · by_cases h2 : x.Low ≤ x.High
          · have h3 : 7 < x.High := by omega
            rw [decide_eq_true h1, decide_eq_true h2, decide_eq_true h3]; rfl
          · rw [decide_eq_true h1, decide_eq_false h2]; rfl
        · rw [decide_eq_false h1]; rfl) (fun m hI => by
      refine ⟨.inr m, by rw [F_ref03_isPanel_s1, dlt]; simp, fun s hs => ?_, hI.2.2.trans ?_⟩
      · obtain ⟨j, hj⟩ := List.mem_iff_getElem?.1 hs
        exact hI.1 j s (List.getElem?_eq_some_iff.1 hj).1 hj
      · constructor
        · rintro ⟨j, y, _, h2, h3⟩; exact ⟨y, List.mem_of_getElem? h2, h3⟩
        · rintro ⟨s, hs, h⟩
          obtain ⟨j, hj⟩ := List.mem_iff_getElem?.1 hs
          exact ⟨j, s, (List.getElem?_eq_some_iff.1 hj).1, hj, h⟩) (by omega)
  rw [show ((8 : Int), (0 : Int)) = ((8 : Int), ((0 : Nat) : Int)) from rfl, hr]
  cases r with
  | inl b => exact ⟨b, rfl, by rw [hpost.1]; simp; exact hpost.2⟩
  | inr m =>
    refine ⟨_, rfl, ?_⟩
    simp only [Bool.and_eq_true, decide_eq_true_iff, beq_iff_eq]
    constructor
    · rintro ⟨⟨h1, h2⟩, h3⟩
      exact ⟨⟨by omega, by omega⟩, hpost.1, hpost.2.1 h3⟩
    · intro h
      exact ⟨⟨by have := h.n.1; omega, by have := h.n.2; omega⟩, hpost.2.2 h.z⟩
theorem p_Check (hn : 1000000 ≤ n) (s : Lap) (hs : Small s) : ∃ v, F_ref03_Check n s = some v ∧ (v = 0 ∨ v = 30) ∧ (v = 0 ↔ VL s) := by
  rw [F_ref03_Check, p_within, p_within]
  simp only [Option.bind_some]
  by_cases hw : 1 ≤ s.Width ∧ s.Width ≤ 8
  · by_cases hl : 1 ≤ s.Length ∧ s.Length ≤ 12
    · rw [decide_eq_true hw.1, decide_eq_true hw.2, decide_eq_true hl.1, decide_eq_true hl.2]
      obtain ⟨b1, e1, q1⟩ := p_areCells hn hl hw s.Faults [] hs.fa (by simp)
      obtain ⟨b2, e2, q2⟩ := p_areCells hn hl hw s.Flaws s.Faults hs.fl hs.fa
      have bad : ∀ {P : Prop}, ¬ VL s → (∃ v, (some 30 : Option Int) = some v ∧ (v = 0 ∨ v = 30) ∧ (v = 0 ↔ VL s)) := fun h => ⟨30, rfl, .inr rfl, by simp; exact h⟩
      rw [e1, e2]
      cases b1 with
      | false => exact bad (P := True) fun h => by have := q1.2 h.fa; cases this
      | true =>
        cases b2 with
        | false => exact bad (P := True) fun h => by have := q2.2 h.fl; cases this
        | true =>
          simp only [Bool.and_self, Bool.not_true, Bool.false_eq_true, if_false, Option.bind_some, Bool.false_or, decide_eq_true_eq]
          by_cases hnp : 5 < (s.Panels.length : Int)
          · rw [if_pos hnp]; exact bad (P := True) fun h => by have := h.np; omega
          · rw [if_neg hnp]
            obtain ⟨r, hr, hp⟩ := loop_list (step := F_ref03_Check_s1 n s) s.Panels (fun i (_ : Unit) => (i : Int)) (fun i _ => ∀ j x, j < i → s.Panels[j]? = some x → VPn x)
              (fun r => match r with | .inl v => v = 30 ∧ ¬ VL s | .inr _ => ∀ p ∈ s.Panels, VPn p) (n := n) () (by intro j x h; omega) (fun i x _ hx hI => by
                have hi := (List.getElem?_eq_some_iff.1 hx).1
                obtain ⟨b, e, q⟩ := p_isPanel hn x (hs.p x (List.mem_of_getElem? hx))
                rw [F_ref03_Check_s1, dlt, decide_eq_true hi, geti_nat, hx]
                simp only [if_true, Option.bind_some, e, w64_nat (show i ≤ 4611686018427387904 by omega)]
                cases b with
                | true =>
                  refine .inl ⟨(), rfl, fun j y hj hy => ?_⟩
                  rcases Nat.lt_or_ge j i with h | h
                  · exact hI j y h hy
                  · obtain rfl : j = i := by omega
                    rw [hx] at hy; cases hy; exact q.1 rfl
                | false => exact .inr ⟨.inl 30, rfl, rfl, fun h => by have := q.2 (h.p x (List.mem_of_getElem? hx)); cases this⟩) (fun _ hI => by
                refine ⟨.inr (), by rw [F_ref03_Check_s1, dlt]; simp, fun p hp => ?_⟩
                obtain ⟨j, hj⟩ := List.mem_iff_getElem?.1 hp
                exact hI j p (List.getElem?_eq_some_iff.1 hj).1 hj) (by have := hs.np; omega)
            rw [show ((0 : Int)) = ((0 : Nat) : Int) from rfl, hr]
            cases r with
            | inl v => exact ⟨v, rfl, .inr hp.1, by rw [hp.1]; simp; exact hp.2⟩
            | inr u => exact ⟨0, rfl, .inl rfl, iff_of_true rfl ⟨hw, hl, q1.1 rfl, q2.1 rfl, by omega, hp⟩⟩
    · refine ⟨30, ?_, .inr rfl, by simp; exact fun h => hl h.l⟩
      rw [decide_eq_true hw.1, decide_eq_true hw.2]
      by_cases h1 : 1 ≤ s.Length
      · rw [decide_eq_true h1, decide_eq_false (show ¬ s.Length ≤ 12 by omega)]; rfl
      · rw [decide_eq_false h1]; rfl
  · refine ⟨30, ?_, .inr rfl, by simp; exact fun h => hw h.w⟩
    by_cases h1 : 1 ≤ s.Width
    · rw [decide_eq_true h1, decide_eq_false (show ¬ s.Width ≤ 8 by omega)]; rfl
    · rw [decide_eq_false h1]; rfl
end
end Go.Proofs.Ytflhjlgimihmgaa
end
section
namespace Go.Proofs.Ytflhjlgimihmgaa
open Go Go.RowKit Go.Dec
theorem mget_ne {m : Mp} (h : Srt m) {k k' : List Int} (hne : k' ≠ k) (v : Int) : mget (mput m k v) k' = mget m k' := by
  by_cases hk : ∃ u, (k', u) ∈ m
  · obtain ⟨u, hu⟩ := hk
    rw [mget_of_mem h hu]
    exact mget_of_mem (srt_mput h) ((mem_mput h).2 (.inr ⟨hu, hne⟩))
  · have h1 : mget m k' = 0 := mget_of_not fun p hp e => hk ⟨p.2, by rw [← e]; exact hp⟩
    rw [h1]
    refine mget_of_not fun p hp e => ?_
    rcases (mem_mput h).1 hp with rfl | ⟨hp, _⟩
    · exact hne e.symm
    · exact hk ⟨p.2, by rw [← e]; exact hp⟩
def In64 (x : Int) : Prop := -9223372036854775808 ≤ x ∧ x ≤ 9223372036854775807
theorem kok2 {a b : Int} (ha : In64 a) (hb : In64 b) : kok 2 [a, b] = some () := kok_ok ⟨rfl, fun y hy => by
  rcases List.mem_cons.1 hy with rfl | hy
  · exact ha
  · rw [List.mem_singleton.1 hy]; exact hb⟩
section
variable {n : Nat}
theorem p_Concat (hn : 1000000 ≤ n) (a b : List Cell) (ha : a.length ≤ 10000) (hb : b.length ≤ 10000) : F_slices_Concat___api_Cell_api_Cell_ n [a, b] = some (a ++ b) := by
  rw [F_slices_Concat___api_Cell_api_Cell_]
  have h1 := (loop_fold (step := F_slices_Concat___api_Cell_api_Cell__s1 n [a, b]) [a, b] (fun i (z : Int) => (z, (i : Int))) (fun z y => z + (y.length : Int)) (fun z => z) (fun i z => 0 ≤ z ∧ z ≤ 10000 * i) (n := n) 0 ⟨by omega, by omega⟩ (fun i x z hx hI => by
    have hi := (List.getElem?_eq_some_iff.1 hx).1
    have hx' : x.length ≤ 10000 := by
      have := List.mem_of_getElem? hx
      simp only [List.mem_cons, List.not_mem_nil, or_false] at this
      rcases this with rfl | rfl <;> assumption
    simp only [List.length_cons, List.length_nil] at hi
    rw [F_slices_Concat___api_Cell_api_Cell__s1, dlt, decide_eq_true (show i < [a, b].length by simpa using hi), geti_nat, hx]
    simp only [if_true, Option.bind_some, w64_nat (show i ≤ 4611686018427387904 by omega)]
    rw [w64_id (by omega) (by omega), decide_eq_false (show ¬ z + (x.length : Int) < 0 by omega)]
    refine ⟨rfl, by omega, ?_⟩
    rw [show ((i + 1 : Nat) : Int) = (i : Int) + 1 by omega]; omega) (fun z hI => by
    rw [F_slices_Concat___api_Cell_api_Cell__s1, dlt]; simp) (by simp; omega)).1
  rw [show ((0 : Int), (0 : Int)) = ((0 : Int), ((0 : Nat) : Int)) from rfl, h1]
  have h2 := (loop_fold (step := F_slices_Concat___api_Cell_api_Cell__s2 n [a, b]) [a, b] (fun i (z : List Cell) => ((i : Int), z)) (fun z y => z ++ y) (fun z => z) (fun i z => z.length ≤ 10000 * i) (n := n) ([] : List Cell) (by simp) (fun i x z hx hI => by
    have hi := (List.getElem?_eq_some_iff.1 hx).1
    have hx' : x.length ≤ 10000 := by
      have := List.mem_of_getElem? hx
      simp only [List.mem_cons, List.not_mem_nil, or_false] at this
      rcases this with rfl | rfl <;> assumption
    simp only [List.length_cons, List.length_nil] at hi
    rw [F_slices_Concat___api_Cell_api_Cell__s2, dlt, decide_eq_true (show i < [a, b].length by simpa using hi), geti_nat, hx]
    simp only [if_true, Option.bind_some, w64_nat (show i ≤ 4611686018427387904 by omega)]
    rw [lim_ok (by rw [List.length_append]; omega)]
    refine ⟨rfl, ?_⟩
    rw [List.length_append]; omega) (fun z hI => by
    rw [F_slices_Concat___api_Cell_api_Cell__s2, dlt]; simp) (by simp; omega)).1
  simp only [List.foldl_cons, List.foldl_nil, Option.bind_some, List.nil_append] at h2 ⊢
  have hg : growck (0 + (a.length : Int) + (b.length : Int)) = some () := by unfold growck; rw [if_pos ⟨by omega, by omega⟩]
  rw [hg]
  simp only [Option.bind_some]
  rw [show ((0 : Int), ([] : List Cell)) = (((0 : Nat) : Int), ([] : List Cell)) from rfl, h2]
  rfl
theorem p_isPanelL (hn : 1000000 ≤ n) (p : Panel) (hp : p.Rows.length ≤ 20) : ∃ b, F_lays_isPanel n p = some b ∧ (b = true ↔ VPn p) := by
  rw [F_lays_isPanel, p_lwithin]
  simp only [Option.bind_some]
  by_cases hlen : 1 ≤ p.Rows.length ∧ p.Rows.length ≤ 4
  · rw [decide_eq_true (show 1 ≤ (p.Rows.length : Int) by omega), decide_eq_true (show (p.Rows.length : Int) ≤ 4 by omega)]
    obtain ⟨r, hr, hpost⟩ := loop_list (step := F_lays_isPanel_s1 n p) p.Rows (fun i (m : Int) => (m, (i : Int)))
      (fun i m => (∀ j x, j < i → p.Rows[j]? = some x → 0 ≤ x.Low ∧ x.Low ≤ x.High ∧ x.High ≤ 7) ∧ (0 ≤ m) ∧ (m = 0 ↔ ∃ j x, j < i ∧ p.Rows[j]? = some x ∧ x.Low = 0))
      (fun r => match r with | .inl b => b = false ∧ ¬ VPn p | .inr m => (∀ s ∈ p.Rows, 0 ≤ s.Low ∧ s.Low ≤ s.High ∧ s.High ≤ 7) ∧ (m = 0 ↔ ∃ s ∈ p.Rows, s.Low = 0)) (n := n) 8 ⟨by intro j x h; omega, by decide, by constructor <;> intro h; omega; obtain ⟨j, _, h, _⟩ := h; omega⟩ (fun i x m hx hI => by
        have hi := (List.getElem?_eq_some_iff.1 hx).1
        rw [F_lays_isPanel_s1, dlt, decide_eq_true hi, geti_nat, hx]
        simp only [if_true, Option.bind_some, p_lwithin, w64_nat (show i ≤ 4611686018427387904 by omega)]
        by_cases hb : 0 ≤ x.Low ∧ x.Low ≤ x.High ∧ x.High ≤ 7
        · refine .inl ⟨min m x.Low, ?_, fun j y hj hy => ?_, by omega, ?_⟩
          · rw [decide_eq_true hb.1, decide_eq_true hb.2.1, decide_eq_false (show ¬ 8 ≤ x.High by omega)]; rfl
          · rcases Nat.lt_or_ge j i with h | h
            · exact hI.1 j y h hy
            · obtain rfl : j = i := by omega
              rw [hx] at hy; cases hy; exact hb
          · constructor
            · intro h
              by_cases hm : m = 0
              · obtain ⟨j, y, h1, h2, h3⟩ := hI.2.2.1 hm
                exact ⟨j, y, by omega, h2, h3⟩
              · exact ⟨i, x, by omega, hx, by have := hI.2.1; omega⟩
            · rintro ⟨j, y, h1, h2, h3⟩
              rcases Nat.lt_or_ge j i with h | h
              · have := hI.2.2.2 ⟨j, y, h, h2, h3⟩; omega
              · obtain rfl : j = i := by omega
                rw [hx] at h2; cases h2; have := hI.2.1; omega
        · refine .inr ⟨.inl false, ?_, rfl, fun hA => hb (hA.r x (List.mem_of_getElem? hx))⟩
          by_cases h1 : 0 ≤ x.Low
          · by_cases h2 : x.Low ≤ x.High
            · have h3 : 8 ≤ x.High := by omega
              rw [decide_eq_true h1, decide_eq_true h2, decide_eq_true h3]; rfl
            · rw [decide_eq_true h1, decide_eq_false h2]; rfl
          · rw [decide_eq_false h1]; rfl) (fun m hI => by
        refine ⟨.inr m, by rw [F_lays_isPanel_s1, dlt]; simp, fun s hs => ?_, hI.2.2.trans ?_⟩
        · obtain ⟨j, hj⟩ := List.mem_iff_getElem?.1 hs
          exact hI.1 j s (List.getElem?_eq_some_iff.1 hj).1 hj
        · constructor
          · rintro ⟨j, y, _, h2, h3⟩; exact ⟨y, List.mem_of_getElem? h2, h3⟩
          · rintro ⟨s, hs, h⟩
            obtain ⟨j, hj⟩ := List.mem_iff_getElem?.1 hs
            exact ⟨j, s, (List.getElem?_eq_some_iff.1 hj).1, hj, h⟩) (by omega)
    rw [show ((8 : Int), (0 : Int)) = ((8 : Int), ((0 : Nat) : Int)) from rfl, hr]
    cases r with
    | inl b => exact ⟨b, rfl, by rw [hpost.1]; simp; exact hpost.2⟩
    | inr m =>
      refine ⟨_, rfl, ?_⟩
      rw [beq_iff_eq]
      exact ⟨fun h3 => ⟨hlen, hpost.1, hpost.2.1 h3⟩, fun h => hpost.2.2 h.z⟩
  · refine ⟨false, ?_, by simp; exact fun h => hlen h.n⟩
    by_cases h1 : 1 ≤ p.Rows.length
    · rw [decide_eq_true (show 1 ≤ (p.Rows.length : Int) by omega), decide_eq_false (show ¬ (p.Rows.length : Int) ≤ 4 by omega)]; rfl
    · rw [decide_eq_false (show ¬ 1 ≤ (p.Rows.length : Int) by omega)]; rfl
theorem p_anyPanel (hn : 1000000 ≤ n) (l : List Panel) (hl : l.length ≤ 20) (hr : ∀ p ∈ l, p.Rows.length ≤ 20) : ∃ b, F_slices_ContainsFunc___api_Panel_api_Panel_ n l (fun a0_ => F_lays_Check_1 n a0_) = some b ∧ (b = false ↔ ∀ p ∈ l, VPn p) := by
  rw [F_slices_ContainsFunc___api_Panel_api_Panel_, F_slices_IndexFunc___api_Panel_api_Panel_]
  obtain ⟨r, hr', hpost⟩ := loop_list (step := F_slices_IndexFunc___api_Panel_api_Panel__s1 n l (fun a0_ => F_lays_Check_1 n a0_)) l (fun i (_ : Unit) => (i : Int)) (fun i _ => ∀ j x, j < i → l[j]? = some x → VPn x)
    (fun r => match r with | .inl v => 0 ≤ v ∧ ¬ ∀ p ∈ l, VPn p | .inr _ => ∀ p ∈ l, VPn p) (n := n) () (by intro j x h; omega) (fun i x _ hx hI => by
      have hi := (List.getElem?_eq_some_iff.1 hx).1
      obtain ⟨b, e, q⟩ := p_isPanelL hn x (hr x (List.mem_of_getElem? hx))
      rw [F_slices_IndexFunc___api_Panel_api_Panel__s1, dlt, decide_eq_true hi, geti_nat, hx]
      simp only [if_true, Option.bind_some, F_lays_Check_1, e, w64_nat (show i ≤ 4611686018427387904 by omega)]
      cases b with
      | true =>
        refine .inl ⟨(), rfl, fun j y hj hy => ?_⟩
        rcases Nat.lt_or_ge j i with h | h
        · exact hI j y h hy
        · obtain rfl : j = i := by omega
          rw [hx] at hy; cases hy; exact q.1 rfl
      | false => exact .inr ⟨.inl (i : Int), rfl, Int.natCast_nonneg _, fun h => by have := q.2 (h x (List.mem_of_getElem? hx)); cases this⟩) (fun _ hI => by
      refine ⟨.inr (), by rw [F_slices_IndexFunc___api_Panel_api_Panel__s1, dlt]; simp, fun p hp => ?_⟩
      obtain ⟨j, hj⟩ := List.mem_iff_getElem?.1 hp
      exact hI j p (List.getElem?_eq_some_iff.1 hj).1 hj) (by omega)
  rw [show ((0 : Int)) = ((0 : Nat) : Int) from rfl, hr']
  cases r with
  | inl v => exact ⟨_, rfl, iff_of_false (by rw [show ((0 : Nat) : Int) = 0 from rfl, decide_eq_true hpost.1]; decide) hpost.2⟩
  | inr u => exact ⟨_, rfl, iff_of_true (by decide) hpost⟩
theorem are_app {s : Lap} {a b : List Cell} : (AreC s a [] ∧ AreC s b a) ↔ (((∀ c ∈ a ++ b, InC s c) ∧ (a ++ b).Nodup) ∧ a.length ≤ 20 ∧ b.length ≤ 20) := by
  constructor
  · rintro ⟨⟨h1, h2, h3⟩, h4, h5, h6⟩
    refine ⟨⟨fun c hc => ?_, List.nodup_append.2 ⟨h2, h5, fun x hx y hy e => (h4 y hy).2 (e ▸ hx)⟩⟩, h3, h6⟩
    rcases List.mem_append.1 hc with h | h
    · exact (h1 c h).1
    · exact (h4 c h).1
  · rintro ⟨⟨h1, h2⟩, h3, h4⟩
    obtain ⟨k1, k2, k3⟩ := List.nodup_append.1 h2
    exact ⟨⟨fun c hc => ⟨h1 c (List.mem_append_left _ hc), by simp⟩, k1, h3⟩, fun c hc => ⟨h1 c (List.mem_append_right _ hc), fun h => k3 c h c hc rfl⟩, k2, h4⟩
theorem p_known (hn : 1000000 ≤ n) {s : Lap} (hl : 1 ≤ s.Length ∧ s.Length ≤ 12) (hw : 1 ≤ s.Width ∧ s.Width ≤ 8) (l : List Cell) (hlen : l.length ≤ 100) (h64 : ∀ c ∈ l, In64 c.Row ∧ In64 c.Col) :
    ∃ r, loopO n (F_lays_Check_s1 n s l) (0, ([] : Mp)) = some r ∧ (match r with | .inl v => v = 30 ∧ ¬ ((∀ c ∈ l, InC s c) ∧ l.Nodup) | .inr _ => (∀ c ∈ l, InC s c) ∧ l.Nodup) := by
  refine loop_list (step := F_lays_Check_s1 n s l) l (fun i (m : Mp) => ((i : Int), m)) (fun i m => Srt m ∧ (∀ j x, j < i → l[j]? = some x → InC s x ∧ x ∉ l.take j) ∧ ∀ c : Cell, mget m [c.Row, c.Col] = if inB (l.take i) c = true then 1 else 0)
    (fun r => match r with | .inl v => v = 30 ∧ ¬ ((∀ c ∈ l, InC s c) ∧ l.Nodup) | .inr _ => (∀ c ∈ l, InC s c) ∧ l.Nodup) (n := n) [] ⟨List.Pairwise.nil, by intro j x h; omega, fun c => by simp [inB, mget_nil]⟩ (fun i x m hx hI => ?_) (fun m hI => ?_) (by omega)
  · have hi := (List.getElem?_eq_some_iff.1 hx).1
    obtain ⟨hS, hall, hg⟩ := hI
    have hk := h64 x (List.mem_of_getElem? hx)
    rw [F_lays_Check_s1, dlt, decide_eq_true hi, geti_nat, hx]
    have hg0 := hg x
    have hS1 := srt_mput (k := [x.Row, x.Col]) (v := mget m [x.Row, x.Col]) hS
    have hw1 : w64 (mget m [x.Row, x.Col] + 1) = mget m [x.Row, x.Col] + 1 := w64_id (by rw [hg0]; split <;> omega) (by rw [hg0]; split <;> omega)
    simp only [if_true, Option.bind_some, kok2 hk.1 hk.2, hw1, mget_mput hS1, p_lwithin, w64_nat (show i ≤ 4611686018427387904 by omega), w64_id (show -9223372036854775808 ≤ s.Length - 1 by omega) (by omega), w64_id (show -9223372036854775808 ≤ s.Width - 1 by omega) (by omega)]
    by_cases hb : InC s x ∧ x ∉ l.take i
    · refine .inl ⟨mput (mput m [x.Row, x.Col] (mget m [x.Row, x.Col])) [x.Row, x.Col] (mget m [x.Row, x.Col] + 1), ?_, srt_mput hS1, fun j y hj hy => ?_, fun c => ?_⟩
      · rw [hg0, inB_f.2 hb.2]
        obtain ⟨⟨h1, h2⟩, h3, h4⟩ := hb.1
        rw [decide_eq_true h1, decide_eq_true h2, decide_eq_true h3, decide_eq_true h4]; rfl
      · rcases Nat.lt_or_ge j i with h | h
        · exact hall j y h hy
        · obtain rfl : j = i := by omega
          rw [hx] at hy; cases hy; exact hb
      · have htk : l.take (i + 1) = l.take i ++ [x] := by rw [List.take_add_one, hx]; rfl
        by_cases hc : c = x
        · subst hc
          rw [mget_mput hS1, hg c, inB_f.2 hb.2, htk, inB_t.2 (by simp)]; rfl
        · have hne : [c.Row, c.Col] ≠ [x.Row, x.Col] := fun e => hc (cell_ext (by simpa using (List.cons.inj e).1) (by simpa using (List.cons.inj (List.cons.inj e).2).1))
          rw [mget_ne hS1 hne, mget_ne hS hne, hg c]
          have : inB (l.take (i + 1)) c = inB (l.take i) c := by
            rw [Bool.eq_iff_iff, inB_t, inB_t, htk, List.mem_append, List.mem_singleton]
            exact ⟨fun h => h.resolve_right hc, .inl⟩
          rw [this]
    · refine .inr ⟨.inl 30, ?_, rfl, fun hA => hb ⟨hA.1 x (List.mem_of_getElem? hx), nodup_iff_take.1 hA.2 i x hx⟩⟩
      rw [hg0]
      cases h4 : inB (l.take i) x with
      | true => rfl
      | false =>
        have hnot : ¬ InC s x := fun h => hb ⟨h, inB_f.1 h4⟩
        have hcb : cellB s x = false := by
          cases h5 : cellB s x with
          | false => rfl
          | true => exact absurd (cellB_t.1 h5) hnot
        unfold cellB at hcb
        cases h6 : (decide (0 ≤ x.Row) && decide (x.Row ≤ s.Length - 1)) with
        | false => rfl
        | true =>
          rw [h6] at hcb
          simp only [Bool.true_and] at hcb
          rw [hcb]; rfl
  · refine ⟨.inr (), by rw [F_lays_Check_s1, dlt]; simp, fun c hc => ?_, nodup_iff_take.2 fun i x hx => (hI.2.1 i x (List.getElem?_eq_some_iff.1 hx).1 hx).2⟩
    obtain ⟨i, hi⟩ := List.mem_iff_getElem?.1 hc
    exact (hI.2.1 i c (List.getElem?_eq_some_iff.1 hi).1 hi).1
theorem p_LCheck (hn : 1000000 ≤ n) (s : Lap) (hs : Small s) (h64 : ∀ c ∈ s.Faults ++ s.Flaws, In64 c.Row ∧ In64 c.Col) : ∃ v, F_lays_Check n s = some v ∧ (v = 0 ∨ v = 30) ∧ (v = 0 ↔ VL s) := by
  have bad : ¬ VL s → (∃ v, (some 30 : Option Int) = some v ∧ (v = 0 ∨ v = 30) ∧ (v = 0 ↔ VL s)) := fun h => ⟨30, rfl, .inr rfl, by simp; exact h⟩
  rw [F_lays_Check, p_lwithin, p_lwithin]
  simp only [Option.bind_some]
  by_cases hw : 1 ≤ s.Width ∧ s.Width ≤ 8
  · by_cases hl : 1 ≤ s.Length ∧ s.Length ≤ 12
    · rw [decide_eq_true hw.1, decide_eq_true hw.2, decide_eq_true hl.1, decide_eq_true hl.2]
      simp only [Bool.and_self, Bool.not_true, Bool.false_eq_true, if_false, Option.bind_some, Bool.false_or]
      by_cases h1 : s.Faults.length ≤ 20
      · by_cases h2 : s.Flaws.length ≤ 20
        · by_cases h3 : s.Panels.length ≤ 5
          · rw [decide_eq_false (show ¬ 20 < (s.Faults.length : Int) by omega), decide_eq_false (show ¬ 20 < (s.Flaws.length : Int) by omega), decide_eq_false (show ¬ 5 < (s.Panels.length : Int) by omega)]
            simp only [Bool.false_eq_true, if_false, Bool.or_self]
            rw [p_Concat hn _ _ (by omega) (by omega)]
            simp only [Option.bind_some]
            obtain ⟨r, hr, hp⟩ := p_known hn hl hw (s.Faults ++ s.Flaws) (by rw [List.length_append]; omega) h64
            rw [hr]
            cases r with
            | inl v =>
              simp only at hp
              simp only [Option.bind_some]
              rw [hp.1]
              exact bad fun h => hp.2 (are_app.1 ⟨h.fa, h.fl⟩).1
            | inr u =>
              simp only at hp
              simp only [Option.bind_some]
              obtain ⟨b, e, q⟩ := p_anyPanel hn s.Panels (by omega) hs.p
              rw [e]
              simp only [Option.bind_some]
              cases b with
              | true => exact bad fun h => by have := q.2 h.p; cases this
              | false =>
                have hA := are_app.2 ⟨hp, h1, h2⟩
                exact ⟨0, rfl, .inl rfl, iff_of_true rfl ⟨hw, hl, hA.1, hA.2, h3, q.1 rfl⟩⟩
          · rw [decide_eq_true (show 5 < (s.Panels.length : Int) by omega), Bool.or_true, if_pos rfl]
            exact bad fun h => h3 h.np
        · rw [decide_eq_true (show 20 < (s.Flaws.length : Int) by omega), Bool.or_true, Bool.true_or, if_pos rfl]
          exact bad fun h => h2 h.fl.2.2
      · rw [decide_eq_true (show 20 < (s.Faults.length : Int) by omega), Bool.true_or, Bool.true_or, if_pos rfl]
        exact bad fun h => h1 h.fa.2.2
    · refine ⟨30, ?_, .inr rfl, by simp; exact fun h => hl h.l⟩
      rw [decide_eq_true hw.1, decide_eq_true hw.2]
      by_cases h1 : 1 ≤ s.Length
      · rw [decide_eq_true h1, decide_eq_false (show ¬ s.Length ≤ 12 by omega)]; rfl
      · rw [decide_eq_false h1]; rfl
  · refine ⟨30, ?_, .inr rfl, by simp; exact fun h => hw h.w⟩
    by_cases h1 : 1 ≤ s.Width
    · rw [decide_eq_true h1, decide_eq_false (show ¬ s.Width ≤ 8 by omega)]; rfl
    · rw [decide_eq_false h1]; rfl
theorem VL.small {s : Lap} (h : VL s) : Small s := ⟨by have := h.fa.2.2; omega, by have := h.fl.2.2; omega, by have := h.np; omega, fun p hp => by have := (h.p p hp).n; omega⟩
theorem InC.in64 {s : Lap} (h : VL s) {c : Cell} (hc : InC s c) : In64 c.Row ∧ In64 c.Col := by
  have hl := h.l; have hw := h.w
  obtain ⟨h1, h2⟩ := hc
  exact ⟨⟨by omega, by omega⟩, ⟨by omega, by omega⟩⟩
theorem VL.in64 {s : Lap} (h : VL s) : ∀ c ∈ s.Faults ++ s.Flaws, In64 c.Row ∧ In64 c.Col := fun c hc => by
  rcases List.mem_append.1 hc with hc | hc
  · exact (h.fa.1 c hc).1.in64 h
  · exact (h.fl.1 c hc).1.in64 h
theorem p_LCheck0 (hn : 1000000 ≤ n) {s : Lap} (h : VL s) : F_lays_Check n s = some 0 := by
  obtain ⟨v, e, _, q⟩ := p_LCheck hn s h.small h.in64
  rw [e, q.2 h]
/-- what a statement examines -/
structure VE (s : Lap) : Prop where
  v : VL s
  w : s.Width ≤ 5
  l : s.Length ≤ 6
  np : s.Panels.length ≤ 3
  nf : s.Flaws.length ≤ 3
theorem p_Far (hn : 1000000 ≤ n) (s : Lap) (hlp : s.Panels.length ≤ 9223372036854775807) : ∃ b, F_law03_Far n s = some b ∧ (b = false → Small s ∧ (VL s → VE s)) ∧ (VE s → b = false) := by
  rw [F_law03_Far]
  by_cases h1 : s.Faults.length ≤ 40
  · by_cases h2 : s.Flaws.length ≤ 40
    · by_cases h3 : s.Panels.length ≤ 20
      · rw [decide_eq_false (show ¬ 40 < (s.Faults.length : Int) by omega), decide_eq_false (show ¬ 40 < (s.Flaws.length : Int) by omega), decide_eq_false (show ¬ 20 < (s.Panels.length : Int) by omega)]
        simp only [Bool.or_self, Bool.false_eq_true, if_false]
        obtain ⟨r, hr, hp⟩ := loop_list (step := F_law03_Far_s1 n s) s.Panels (fun i (_ : Unit) => (i : Int)) (fun i _ => ∀ j x, j < i → s.Panels[j]? = some x → x.Rows.length ≤ 20)
          (fun r => match r with | .inl v => v = true ∧ ¬ ∀ p ∈ s.Panels, p.Rows.length ≤ 20 | .inr _ => ∀ p ∈ s.Panels, p.Rows.length ≤ 20) (n := n) () (by intro j x h; omega) (fun i x _ hx hI => by
            have hi := (List.getElem?_eq_some_iff.1 hx).1
            rw [F_law03_Far_s1, dlt, decide_eq_true hi, geti_nat, hx]
            simp only [if_true, Option.bind_some, w64_nat (show i ≤ 4611686018427387904 by omega)]
            by_cases hb : x.Rows.length ≤ 20
            · rw [decide_eq_false (show ¬ 20 < (x.Rows.length : Int) by omega)]
              refine .inl ⟨(), rfl, fun j y hj hy => ?_⟩
              rcases Nat.lt_or_ge j i with h | h
              · exact hI j y h hy
              · obtain rfl : j = i := by omega
                rw [hx] at hy; cases hy; exact hb
            · rw [decide_eq_true (show 20 < (x.Rows.length : Int) by omega)]
              exact .inr ⟨.inl true, rfl, rfl, fun h => hb (h x (List.mem_of_getElem? hx))⟩) (fun _ hI => by
            refine ⟨.inr (), by rw [F_law03_Far_s1, dlt]; simp, fun p hp => ?_⟩
            obtain ⟨j, hj⟩ := List.mem_iff_getElem?.1 hp
            exact hI j p (List.getElem?_eq_some_iff.1 hj).1 hj) (by omega)
        rw [show ((0 : Int)) = ((0 : Nat) : Int) from rfl, hr]
        cases r with
        | inl v =>
          refine ⟨v, rfl, fun h => ?_, fun h => ?_⟩
          · rw [hp.1] at h; cases h
          · exact absurd (fun p hp => h.v.small.p p hp) hp.2
        | inr u =>
          have hS : Small s := ⟨h1, h2, h3, hp⟩
          obtain ⟨v, e, hv, q⟩ := p_Check hn s hS
          refine ⟨(v == 0) && ((((decide (5 < s.Width)) || (decide (6 < s.Length))) || (decide (3 < (s.Panels.length : Int)))) || (decide (3 < (s.Flaws.length : Int)))), by rw [e]; rfl, fun h => ⟨hS, fun hV => ?_⟩, fun h => ?_⟩
          · rw [q.2 hV] at h
            simp only [beq_self_eq_true, Bool.true_and, Bool.or_eq_false_iff, decide_eq_false_iff_not] at h
            obtain ⟨⟨⟨k1, k2⟩, k3⟩, k4⟩ := h
            exact ⟨hV, by omega, by omega, by omega, by omega⟩
          · rw [q.2 h.v]
            have := h.w; have := h.l; have := h.np; have := h.nf
            rw [decide_eq_false (show ¬ 5 < s.Width by omega), decide_eq_false (show ¬ 6 < s.Length by omega), decide_eq_false (show ¬ 3 < (s.Panels.length : Int) by omega), decide_eq_false (show ¬ 3 < (s.Flaws.length : Int) by omega)]
            rfl
      · refine ⟨true, ?_, by simp, fun h => by have := h.np; omega⟩
        rw [decide_eq_true (show 20 < (s.Panels.length : Int) by omega), Bool.or_true, if_pos rfl]
    · refine ⟨true, ?_, by simp, fun h => by have := h.nf; omega⟩
      rw [decide_eq_true (show 40 < (s.Flaws.length : Int) by omega), Bool.or_true, Bool.true_or, if_pos rfl]
  · refine ⟨true, ?_, by simp, fun h => by have := h.v.small.fa; omega⟩
    rw [decide_eq_true (show 40 < (s.Faults.length : Int) by omega), Bool.true_or, Bool.true_or, if_pos rfl]
theorem p_ready (hn : 1000000 ≤ n) (s : Lap) (hlp : s.Panels.length ≤ 9223372036854775807) : ∃ b, F_law03_ready n s = some b ∧ (b = true ↔ VE s) := by
  rw [F_law03_ready]
  obtain ⟨b, e, h1, h2⟩ := p_Far hn s hlp
  rw [e]
  simp only [Option.bind_some]
  cases b with
  | true => exact ⟨false, rfl, by simp; exact fun h => by have := h2 h; cases this⟩
  | false =>
    obtain ⟨hS, hV⟩ := h1 rfl
    obtain ⟨v, ev, hv, q⟩ := p_Check hn s hS
    simp only [Bool.not_false, if_true, ev, Option.bind_some]
    refine ⟨_, rfl, ?_⟩
    rw [beq_iff_eq]
    exact ⟨fun h => hV (q.1 h), fun h => q.2 h.v⟩
theorem p_Copy (hn : 1000000 ≤ n) (s : Lap) (hs : Small s) : F_ref03_Copy n s = some s := by
  rw [F_ref03_Copy]
  have h1 := hs.fa; have h2 := hs.fl; have h3 := hs.np
  simp only [List.nil_append, lim_ok (show s.Faults.length ≤ 4294967296 by omega), lim_ok (show s.Flaws.length ≤ 4294967296 by omega), Option.bind_some]
  have h := (loop_fold (step := F_ref03_Copy_s1 n s) s.Panels (fun i (z : List Panel) => ((i : Int), z)) (fun z p => z ++ [p]) (fun z => z) (fun i z => z.length = i) (n := n) ([] : List Panel) rfl (fun i x z hx hI => by
    have hi := (List.getElem?_eq_some_iff.1 hx).1
    have hx' := hs.p x (List.mem_of_getElem? hx)
    rw [F_ref03_Copy_s1, dlt, decide_eq_true hi, geti_nat, hx]
    simp only [if_true, Option.bind_some, List.nil_append, lim_ok (show x.Rows.length ≤ 4294967296 by omega), w64_nat (show i ≤ 4611686018427387904 by omega)]
    rw [lim_ok (by rw [List.length_append, hI]; simp; omega)]
    exact ⟨rfl, by simp [hI]⟩) (fun z hI => by rw [F_ref03_Copy_s1, dlt]; simp) (by omega)).1
  rw [show ((0 : Int), ([] : List Panel)) = (((0 : Nat) : Int), ([] : List Panel)) from rfl, h]
  have e : s.Panels.foldl (fun z p => z ++ [p]) [] = s.Panels := by
    have := foldl_append_map (fun p : Panel => p) s.Panels []
    simpa using this
  simp only [Option.bind_some]
  rw [e]
end
end Go.Proofs.Ytflhjlgimihmgaa
end
section
namespace Go.Proofs.Ytflhjlgimihmgaa
open Go Go.RowKit Go.Dec
theorem wrap16 {a : Nat} (h : a < 65536) : IntKind.u16.wrap (a : Int) = a := by
  have : IntKind.u16.wrap (a : Int) = (a : Int) % 65536 := rfl
  rw [this]; omega
theorem band_nat {a b : Nat} (ha : a < 65536) (hb : b < 65536) : band .u16 (a : Int) (b : Int) = ((a &&& b : Nat) : Int) := by
  have e : ∀ x : Nat, x < 65536 → (BitVec.ofInt IntKind.u16.bits (x : Int)).toNat = x := fun x hx => by
    show (BitVec.ofInt 16 (x : Int)).toNat = x
    rw [BitVec.toNat_ofInt]; omega
  unfold band
  rw [BitVec.toNat_and, e a ha, e b hb]
  exact wrap16 (Nat.lt_of_le_of_lt Nat.and_le_left ha)
theorem bor_nat {a b : Nat} (ha : a < 65536) (hb : b < 65536) : bor .u16 (a : Int) (b : Int) = ((a ||| b : Nat) : Int) := by
  have e : ∀ x : Nat, x < 65536 → (BitVec.ofInt IntKind.u16.bits (x : Int)).toNat = x := fun x hx => by
    show (BitVec.ofInt 16 (x : Int)).toNat = x
    rw [BitVec.toNat_ofInt]; omega
  unfold bor
  rw [BitVec.toNat_or, e a ha, e b hb]
  exact wrap16 (Nat.or_lt_two_pow (n := 16) ha hb)
theorem bshl1 : ∀ k, k < 9 → bshl .u16 1 (k : Nat) = ((2 ^ k : Nat) : Int) := by decide
/-- the columns from l to h -/
def cols (l h : Nat) : Nat := 2 ^ (h + 1) - 2 ^ l
theorem cols_eq : ∀ h, h < 8 → ∀ l, l < 9 → l ≤ h → IntKind.u16.wrap (((2 ^ (h + 1) : Nat) : Int) - ((2 ^ l : Nat) : Int)) = (cols l h : Nat) := by decide
theorem cols_bit' : ∀ h, h < 8 → ∀ l, l < 9 → l ≤ h → ∀ c, c < 8 → (cols l h).testBit c = (decide (l ≤ c) && decide (c ≤ h)) := by decide
theorem cols_lt : ∀ h, h < 8 → ∀ l, l < 9 → cols l h < 256 := by decide
theorem bit_hi {a c : Nat} (ha : a < 256) (hc : 8 ≤ c) : a.testBit c = false := Nat.testBit_lt_two_pow (Nat.lt_of_lt_of_le ha (Nat.pow_le_pow_right (n := 2) (by decide) (show 8 ≤ c from hc)))
theorem cols_bit {h l c : Nat} (hh : h < 8) (hl : l ≤ h) : (cols l h).testBit c = (decide (l ≤ c) && decide (c ≤ h)) := by
  rcases Nat.lt_or_ge c 8 with hc | hc
  · exact cols_bit' h hh l (by omega) hl c hc
  · rw [bit_hi (cols_lt h hh l (by omega)) hc, decide_eq_false (show ¬ c ≤ h by omega), Bool.and_false]
theorem bit_one : ∀ k, k < 8 → ∀ c, c < 8 → (2 ^ k : Nat).testBit c = decide (c = k) := by decide
structure TK (tk : List Int) : Prop where
  len : tk.length = 12
  v : ∀ x ∈ tk, ∃ a : Nat, x = a ∧ a < 256
def hasB (tk : List Int) (r c : Nat) : Bool := match tk[r]? with | some x => x.toNat.testBit c | none => false
theorem TK.at {tk : List Int} (h : TK tk) {r : Nat} (hr : r < 12) : ∃ a : Nat, tk[r]? = some (a : Int) ∧ a < 256 ∧ ∀ c, hasB tk r c = a.testBit c := by
  have hlt : r < tk.length := by rw [h.len]; exact hr
  obtain ⟨a, ha, hb⟩ := h.v _ (List.getElem_mem hlt)
  refine ⟨a, by rw [List.getElem?_eq_getElem hlt, ha], hb, fun c => ?_⟩
  unfold hasB
  rw [List.getElem?_eq_getElem hlt, ha]; rfl
theorem TK.set {tk : List Int} (h : TK tk) {r : Nat} {b : Nat} (hb : b < 256) : TK (setx tk (r : Int) (b : Int)) := by
  refine ⟨by rw [setx_len]; exact h.len, fun x hx => ?_⟩
  rcases List.mem_or_eq_of_mem_set hx with h1 | h1
  · exact h.v x h1
  · exact ⟨b, h1, hb⟩
theorem hasB_set {tk : List Int} (h : TK tk) {r : Nat} (hr : r < 12) {b : Nat} (r' c : Nat) : hasB (setx tk (r : Int) (b : Int)) r' c = if r' = r then b.testBit c else hasB tk r' c := by
  unfold hasB setx
  rw [Int.toNat_natCast, List.getElem?_set]
  by_cases e : r = r'
  · subst e
    rw [if_pos rfl, if_pos (by rw [h.len]; exact hr), if_pos rfl]; rfl
  · rw [if_neg e, if_neg (fun h => e h.symm)]
section
variable {n : Nat}
theorem p_cellsOf1 (hn : 1000000 ≤ n) (l : List Cell) (hl : l.length ≤ 100) (hc : ∀ c ∈ l, (0 ≤ c.Row ∧ c.Row < 12) ∧ 0 ≤ c.Col ∧ c.Col < 8) (tk : List Int) (hT : TK tk) :
    ∃ tk', loopO n (F_lays_cellsOf_s2 n l) (0, tk) = some tk' ∧ TK tk' ∧ ∀ r c, hasB tk' r c = true ↔ hasB tk r c = true ∨ ∃ x ∈ l, x.Row = (r : Nat) ∧ x.Col = (c : Nat) := by
  refine loop_list (step := F_lays_cellsOf_s2 n l) l (fun i (z : List Int) => ((i : Int), z)) (fun i z => TK z ∧ ∀ r c, hasB z r c = true ↔ hasB tk r c = true ∨ ∃ x ∈ l.take i, x.Row = (r : Nat) ∧ x.Col = (c : Nat))
    (fun z => TK z ∧ ∀ r c, hasB z r c = true ↔ hasB tk r c = true ∨ ∃ x ∈ l, x.Row = (r : Nat) ∧ x.Col = (c : Nat)) (n := n) tk ⟨hT, fun r c => by simp⟩ (fun i x z hx hI => .inl ?_) (fun z hI => ?_) (by omega)
  · have hi := (List.getElem?_eq_some_iff.1 hx).1
    obtain ⟨⟨h1, h2⟩, h3, h4⟩ := hc x (List.mem_of_getElem? hx)
    obtain ⟨R, hR⟩ : ∃ R : Nat, x.Row = R := ⟨x.Row.toNat, by omega⟩
    obtain ⟨C, hC⟩ : ∃ C : Nat, x.Col = C := ⟨x.Col.toNat, by omega⟩
    obtain ⟨a, ha, hb, hbit⟩ := hI.1.at (r := R) (by omega)
    have hn0 : nneg (C : Int) = some () := by unfold nneg; rw [if_neg (by omega)]
    have hlt : a ||| 2 ^ C < 256 := Nat.or_lt_two_pow (n := 8) hb (Nat.pow_lt_pow_right (by decide) (show C < 8 by omega))
    refine ⟨setx z (R : Int) ((a ||| 2 ^ C : Nat) : Int), ?_, hI.1.set hlt, fun r c => ?_⟩
    · rw [F_lays_cellsOf_s2, dlt, decide_eq_true hi, geti_nat, hx]
      simp only [if_true, Option.bind_some, hR, hC, geti_nat, ha, hn0, w64_nat (show i ≤ 4611686018427387904 by omega)]
      rw [bshl1 C (by omega), bor_nat (by omega) (Nat.lt_of_lt_of_le (Nat.pow_lt_pow_right (by decide) (show C < 8 by omega)) (by decide))]
    · have htk : l.take (i + 1) = l.take i ++ [x] := by rw [List.take_add_one, hx]; rfl
      rw [hasB_set hI.1 (by omega), htk]
      by_cases e : r = R
      · subst e
        rw [if_pos rfl, Nat.testBit_or, Bool.or_eq_true, ← hbit, hI.2]
        have hcc : (2 ^ C).testBit c = true ↔ c = C := by
          rcases Nat.lt_or_ge c 8 with h | h
          · rw [bit_one C (by omega) c h]; simp
          · rw [bit_hi (Nat.pow_lt_pow_right (by decide) (show C < 8 by omega)) h]; simp; omega
        rw [hcc]
        constructor
        · rintro ((h | ⟨y, hy, h⟩) | h)
          · exact .inl h
          · exact .inr ⟨y, List.mem_append_left _ hy, h⟩
          · exact .inr ⟨x, by simp, hR, by rw [hC, h]⟩
        · rintro (h | ⟨y, hy, h⟩)
          · exact .inl (.inl h)
          · rcases List.mem_append.1 hy with hy | hy
            · exact .inl (.inr ⟨y, hy, h⟩)
            · rw [List.mem_singleton.1 hy] at h
              exact .inr (by omega)
      · rw [if_neg e, hI.2]
        constructor
        · rintro (h | ⟨y, hy, h⟩)
          · exact .inl h
          · exact .inr ⟨y, List.mem_append_left _ hy, h⟩
        · rintro (h | ⟨y, hy, h⟩)
          · exact .inl h
          · rcases List.mem_append.1 hy with hy | hy
            · exact .inr ⟨y, hy, h⟩
            · rw [List.mem_singleton.1 hy] at h
              exact absurd (show r = R by omega) e
  · exact ⟨z, by rw [F_lays_cellsOf_s2, dlt]; simp, hI.1, fun r c => by rw [hI.2, List.take_length]⟩
theorem TK.zero : TK [0, 0, 0, 0, 0, 0, 0, 0, 0, 0, 0, 0] := ⟨rfl, fun x hx => ⟨0, by simpa using hx, by decide⟩⟩
theorem hasB_zero (r c : Nat) : hasB [0, 0, 0, 0, 0, 0, 0, 0, 0, 0, 0, 0] r c = false := by
  unfold hasB
  cases h : ([0, 0, 0, 0, 0, 0, 0, 0, 0, 0, 0, 0] : List Int)[r]? with
  | none => rfl
  | some x =>
    have : x = 0 := by have := List.mem_of_getElem? h; simpa using this
    subst this; simp
theorem p_cellsOf (hn : 1000000 ≤ n) (ls : List (List Cell)) (hls : ls.length ≤ 2) (hl : ∀ l ∈ ls, l.length ≤ 100) (hc : ∀ l ∈ ls, ∀ c ∈ l, (0 ≤ c.Row ∧ c.Row < 12) ∧ 0 ≤ c.Col ∧ c.Col < 8) :
    ∃ tk, F_lays_cellsOf n ls = some tk ∧ lenck 12 tk = some () ∧ TK tk ∧ ∀ r c, hasB tk r c = true ↔ ∃ l ∈ ls, ∃ x ∈ l, x.Row = (r : Nat) ∧ x.Col = (c : Nat) := by
  rw [F_lays_cellsOf]
  obtain ⟨tk, h, hT, hh⟩ := loop_list (step := F_lays_cellsOf_s1 n ls) ls (fun i (z : List Int) => ((i : Int), z)) (fun i z => TK z ∧ ∀ r c, hasB z r c = true ↔ ∃ l ∈ ls.take i, ∃ x ∈ l, x.Row = (r : Nat) ∧ x.Col = (c : Nat))
    (fun z => TK z ∧ ∀ r c, hasB z r c = true ↔ ∃ l ∈ ls, ∃ x ∈ l, x.Row = (r : Nat) ∧ x.Col = (c : Nat)) (n := n) [0, 0, 0, 0, 0, 0, 0, 0, 0, 0, 0, 0] ⟨TK.zero, fun r c => by rw [hasB_zero]; simp⟩ (fun i x z hx hI => .inl (by
      have hi := (List.getElem?_eq_some_iff.1 hx).1
      have hm := List.mem_of_getElem? hx
      obtain ⟨z', e, hT', hh'⟩ := p_cellsOf1 hn x (hl x hm) (hc x hm) z hI.1
      refine ⟨z', ?_, hT', fun r c => ?_⟩
      · rw [F_lays_cellsOf_s1, dlt, decide_eq_true hi, geti_nat, hx]
        simp only [if_true, Option.bind_some, e, w64_nat (show i ≤ 4611686018427387904 by omega)]
      · have htk : ls.take (i + 1) = ls.take i ++ [x] := by rw [List.take_add_one, hx]; rfl
        rw [hh', hI.2, htk]
        constructor
        · rintro (⟨l, hl', h⟩ | h)
          · exact ⟨l, List.mem_append_left _ hl', h⟩
          · exact ⟨x, by simp, h⟩
        · rintro ⟨l, hl', h⟩
          rcases List.mem_append.1 hl' with hl' | hl'
          · exact .inl ⟨l, hl', h⟩
          · rw [List.mem_singleton.1 hl'] at h; exact .inr h)) (fun z hI => ⟨z, by rw [F_lays_cellsOf_s1, dlt]; simp, hI.1, fun r c => by rw [hI.2, List.take_length]⟩) (by omega)
  rw [show ((0 : Int), ([0, 0, 0, 0, 0, 0, 0, 0, 0, 0, 0, 0] : List Int)) = (((0 : Nat) : Int), [0, 0, 0, 0, 0, 0, 0, 0, 0, 0, 0, 0]) from rfl, h]
  exact ⟨tk, rfl, by unfold lenck; rw [if_pos hT.len], hT, hh⟩
def wide (p : Panel) : Int := p.Rows.foldl (fun w s => max w s.High) 0
def rowsT (p : Panel) (t : Int) : List Span := if t = 0 then p.Rows else p.Rows.reverse.map fun s => ⟨wide p - s.High, wide p - s.Low⟩
theorem wide_foldl (l : List Span) : ∀ w : Int, (w ≤ l.foldl (fun w s => max w s.High) w) ∧ (∀ s ∈ l, s.High ≤ l.foldl (fun w s => max w s.High) w) ∧ (l.foldl (fun w s => max w s.High) w = w ∨ ∃ s ∈ l, s.High = l.foldl (fun w s => max w s.High) w) := by
  induction l with
  | nil => intro w; simp
  | cons a l ih =>
    intro w
    rw [List.foldl_cons]
    obtain ⟨h1, h2, h3⟩ := ih (max w a.High)
    refine ⟨by omega, fun s hs => ?_, ?_⟩
    · rcases List.mem_cons.1 hs with rfl | hs
      · omega
      · exact h2 s hs
    · rcases h3 with h | ⟨s, hs, h⟩
      · rcases Int.le_total w a.High with hw | hw
        · exact .inr ⟨a, by simp, by omega⟩
        · exact .inl (by omega)
      · exact .inr ⟨s, List.mem_cons_of_mem _ hs, h⟩
theorem VPn.wide {p : Panel} (h : VPn p) : (0 ≤ wide p ∧ wide p ≤ 7) ∧ (∀ s ∈ p.Rows, s.High ≤ wide p) ∧ ∃ s ∈ p.Rows, s.High = wide p := by
  obtain ⟨h1, h2, h3⟩ := wide_foldl p.Rows 0
  refine ⟨⟨h1, ?_⟩, h2, ?_⟩
  · rcases h3 with e | ⟨s, hs, e⟩
    · show p.Rows.foldl (fun w s => max w s.High) 0 ≤ 7; omega
    · have := h.r s hs; show p.Rows.foldl (fun w s => max w s.High) 0 ≤ 7; omega
  · rcases h3 with e | h3
    · obtain ⟨s, hs, _⟩ := h.z
      refine ⟨s, hs, ?_⟩
      have h5 := h2 s hs
      have := h.r s hs
      show s.High = p.Rows.foldl (fun w s => max w s.High) 0
      omega
    · exact h3
theorem VPn.turn {p : Panel} (h : VPn p) (t : Int) : VPn ⟨rowsT p t⟩ := by
  unfold rowsT
  split
  · exact h
  · obtain ⟨⟨w0, w7⟩, hw, s1, hs1, e1⟩ := h.wide
    refine ⟨by simpa using h.n, fun s hs => ?_, ⟨_, List.mem_map.2 ⟨s1, List.mem_reverse.2 hs1, rfl⟩, by simp only; omega⟩⟩
    obtain ⟨s', hs', rfl⟩ := List.mem_map.1 hs
    have hs' := List.mem_reverse.1 hs'
    have := h.r s' hs'
    have := hw s' hs'
    exact ⟨by simp only; omega, by simp only; omega, by simp only; omega⟩
theorem back_run {σ ρ : Type} {l : List Span} {cs : σ → Int × Span → Option (σ ⊕ ρ)} (g : σ → Span → σ) (I : Nat → σ → Prop) (hl : l.length ≤ 1000) (h : ∀ i x s, l[i]? = some x → I (i + 1) s → cs s ((i : Int), x) = some (.inl (g s x)) ∧ I i (g s x)) :
    ∀ (k : Nat) (s : σ) (n : Nat), k ≤ l.length → I k s → k < n → loopO n (I_slices_Backward___api_Span_api_Span__1_s l cs) ((k : Int) - 1, s) = some (.inl ((l.take k).reverse.foldl g s)) := by
  intro k
  induction k with
  | zero =>
    intro s n _ _ hn
    refine loop_done ?_ hn
    rw [I_slices_Backward___api_Span_api_Span__1_s, if_neg (by simp)]; simp
  | succ k ih =>
    intro s n hk hI hn
    obtain ⟨m, rfl⟩ : ∃ k, n = k + 1 := ⟨n - 1, by omega⟩
    have hlt : k < l.length := by omega
    obtain ⟨h1, h2⟩ := h k l[k] s (List.getElem?_eq_getElem hlt) hI
    have e0 : ((k + 1 : Nat) : Int) - 1 = (k : Int) := by omega
    rw [loopO_succ, e0, I_slices_Backward___api_Span_api_Span__1_s, if_pos (by simp), geti_nat, List.getElem?_eq_getElem hlt]
    simp only [Option.bind_some, h1]
    rw [w64_id (by omega) (by omega), ih _ m (by omega) h2 (by omega), List.take_succ_eq_append_getElem hlt]
    simp only [List.reverse_append, List.reverse_cons, List.reverse_nil, List.nil_append, List.cons_append, List.foldl_cons]
theorem p_rows (hn : 1000000 ≤ n) {p : Panel} (h : VPn p) (t : Int) : F_lays_rows n p t = some (rowsT p t) := by
  rw [F_lays_rows, rowsT]
  by_cases ht : t = 0
  · rw [if_pos (by simpa using ht), if_pos ht]
  · rw [if_neg (by simpa using ht), if_neg ht]
    have hl := h.n
    have h1 := (loop_fold (step := F_lays_rows_s1 n p) p.Rows (fun i (z : Int) => ((i : Int), z)) (fun z s => max z s.High) (fun z => z) (fun _ _ => True) (n := n) 0 trivial (fun i x z hx _ => by
      have hi := (List.getElem?_eq_some_iff.1 hx).1
      refine ⟨?_, trivial⟩
      rw [F_lays_rows_s1, dlt, decide_eq_true hi, geti_nat, hx]
      simp only [if_true, Option.bind_some, w64_nat (show i ≤ 4611686018427387904 by omega)]) (fun z _ => by rw [F_lays_rows_s1, dlt]; simp) (by omega)).1
    rw [show ((0 : Int), (0 : Int)) = (((0 : Nat) : Int), (0 : Int)) from rfl, h1]
    simp only [Option.bind_some, F_slices_Backward___api_Span_api_Span_, I_slices_Backward___api_Span_api_Span__1]
    obtain ⟨⟨w0, w7⟩, hw, _⟩ := h.wide
    have h2 := back_run (l := p.Rows) (cs := F_lays_rows_s2 n (wide p)) (fun z s => z ++ [(⟨wide p - s.High, wide p - s.Low⟩ : Span)]) (fun k z => z.length + k = p.Rows.length) (by omega) (fun i x z hx hI => by
      have hx' := h.r x (List.mem_of_getElem? hx)
      have := hw x (List.mem_of_getElem? hx)
      rw [F_lays_rows_s2]
      dsimp only
      rw [w64_id (by omega) (by omega), w64_id (by omega) (by omega), lim_ok (by rw [List.length_append]; simp; omega)]
      exact ⟨rfl, by rw [List.length_append]; simp; omega⟩) p.Rows.length [] n (Nat.le_refl _) (by simp) (by omega)
    rw [w64_id (by omega) (by omega)]
    rw [show p.Rows.foldl (fun z s => max z s.High) 0 = wide p from rfl, h2, List.take_length]
    simp only [Option.bind_some]
    rw [foldl_append_map (fun s : Span => (⟨wide p - s.High, wide p - s.Low⟩ : Span))]
    simp
def cov (rs : List Span) (pl : Place) (r c : Int) : Prop := ∃ (k : Nat) (s : Span), rs[k]? = some s ∧ r = pl.Row + k ∧ pl.Col + s.Low ≤ c ∧ c ≤ pl.Col + s.High
def badT (tk : List Int) (r c : Int) : Prop := 0 ≤ r ∧ 0 ≤ c ∧ hasB tk r.toNat c.toNat = true
def PlOK (pl : Place) : Prop := 0 ≤ pl.Row ∧ 0 ≤ pl.Col ∧ (pl.Turned = 0 ∨ pl.Turned = 1)
def Fits (W n : Int) (bad : Int → Int → Prop) (rs : List Span) (pl : Place) : Prop := ∀ r c, cov rs pl r c → r < n ∧ c < W ∧ ¬ bad r c
theorem p_put (hn : 1000000 ≤ n) {c : Lap} (hv : VL c) {m : Int} (hm : 0 ≤ m ∧ m ≤ 12) {tk : List Int} (hT : TK tk) (lay : List Place) (hlay : lay.length ≤ 100) {i : Nat} {p : Panel} (hp : c.Panels[i]? = some p) {pl : Place} (hpl : PlOK pl) (hpb : pl.Row ≤ 12 ∧ pl.Col ≤ 12) :
    ∃ y, F_lays_cloth_put n c m tk lay (i : Int) pl = some y ∧ ((y.1 = true ∧ Fits c.Width m (badT tk) (rowsT p pl.Turned) pl ∧ TK y.2.1 ∧ y.2.2 = lay ++ [pl] ∧ ∀ r c, badT y.2.1 r c ↔ badT tk r c ∨ cov (rowsT p pl.Turned) pl r c) ∨ (y.1 = false ∧ ¬ Fits c.Width m (badT tk) (rowsT p pl.Turned) pl)) := by
  have hvp := hv.p p (List.mem_of_getElem? hp)
  have hR := hvp.turn pl.Turned
  obtain ⟨hr0, hc0, _⟩ := hpl
  have hW := hv.w
  rw [F_lays_cloth_put, geti_nat, hp]
  simp only [Option.bind_some, p_rows hn hvp]
  generalize hrs : rowsT p pl.Turned = rs at hR
  obtain ⟨hRn, hRr, hRz⟩ := hR
  simp only at hRn hRr hRz
  obtain ⟨R, hRow⟩ : ∃ R : Nat, pl.Row = R := ⟨pl.Row.toNat, by omega⟩
  obtain ⟨C, hCol⟩ : ∃ C : Nat, pl.Col = C := ⟨pl.Col.toNat, by omega⟩
  obtain ⟨r, hr, hpost⟩ := loop_list (step := F_lays_cloth_put_s1 n c m tk lay pl rs) rs (fun i (z : List Int) => ((i : Int), z))
    (fun i z => TK z ∧ (∀ a b : Nat, hasB z a b = true ↔ hasB tk a b = true ∨ ∃ (k : Nat) (s : Span), k < i ∧ rs[k]? = some s ∧ a = R + k ∧ C + s.Low ≤ b ∧ b ≤ C + s.High) ∧ ∀ (k : Nat) (s : Span), k < i → rs[k]? = some s → ∀ x : Int, pl.Col + s.Low ≤ x → x ≤ pl.Col + s.High → pl.Row + k < m ∧ x < c.Width ∧ ¬ badT tk (pl.Row + k) x)
    (fun r => match r with | .inl y => y = (false, tk, lay) ∧ ¬ Fits c.Width m (badT tk) rs pl | .inr z => TK z ∧ (∀ a b : Nat, hasB z a b = true ↔ hasB tk a b = true ∨ ∃ (k : Nat) (s : Span), rs[k]? = some s ∧ a = R + k ∧ C + s.Low ≤ b ∧ b ≤ C + s.High) ∧ Fits c.Width m (badT tk) rs pl) (n := n) tk
    ⟨hT, fun a b => ⟨.inl, fun h => h.resolve_right fun ⟨k, s, h1, _⟩ => by omega⟩, fun k s h => by omega⟩ (fun i x z hx hI => by
      have hi := (List.getElem?_eq_some_iff.1 hx).1
      obtain ⟨x0, x1, x2⟩ := hRr x (List.mem_of_getElem? hx)
      obtain ⟨hTz, hz, hfit⟩ := hI
      obtain ⟨L, hL⟩ : ∃ L : Nat, x.Low = L := ⟨x.Low.toNat, by omega⟩
      obtain ⟨U, hU⟩ : ∃ U : Nat, x.High = U := ⟨x.High.toNat, by omega⟩
      have covx : ∀ b : Int, pl.Col + x.Low ≤ b → b ≤ pl.Col + x.High → cov rs pl (pl.Row + i) b := fun b h1 h2 => ⟨i, x, hx, rfl, h1, h2⟩
      rw [F_lays_cloth_put_s1, dlt, decide_eq_true hi, geti_nat, hx]
      simp only [if_true, Option.bind_some, w64_nat (show i ≤ 4611686018427387904 by omega)]
      rw [w64_id (show -9223372036854775808 ≤ pl.Row + (i : Int) by omega) (by omega), w64_id (show -9223372036854775808 ≤ pl.Col + x.High by omega) (by omega)]
      by_cases ho : m ≤ pl.Row + i ∨ c.Width ≤ pl.Col + x.High
      · refine .inr ⟨.inl (false, tk, lay), ?_, rfl, fun hF => ?_⟩
        · rcases ho with h | h
          · rw [decide_eq_true h]; rfl
          · rw [decide_eq_true h, Bool.or_true]; rfl
        · have := hF _ _ (covx (pl.Col + x.High) (by omega) (by omega)); omega
      · rw [decide_eq_false (show ¬ m ≤ pl.Row + i by omega), decide_eq_false (show ¬ c.Width ≤ pl.Col + x.High by omega)]
        simp only [Bool.or_self, Bool.false_eq_true, if_false]
        rw [w64_id (show -9223372036854775808 ≤ pl.Col + x.High + 1 by omega) (by omega), w64_id (show -9223372036854775808 ≤ pl.Col + x.Low by omega) (by omega)]
        have e1 : pl.Col + x.High + 1 = ((C + U + 1 : Nat) : Int) := by omega
        have e2 : pl.Col + x.Low = ((C + L : Nat) : Int) := by omega
        have e3 : pl.Row + (i : Int) = ((R + i : Nat) : Int) := by omega
        have n1 : nneg (pl.Col + x.High + 1) = some () := by unfold nneg; rw [if_neg (by omega)]
        have n2 : nneg (pl.Col + x.Low) = some () := by unfold nneg; rw [if_neg (by omega)]
        obtain ⟨a, ha, hab, hbit⟩ := hTz.at (r := R + i) (by omega)
        have hCU : C + U < 8 := by omega
        have hwr : IntKind.u16.wrap (bshl .u16 1 (pl.Col + x.High + 1) - bshl .u16 1 (pl.Col + x.Low)) = (cols (C + L) (C + U) : Nat) := by
          rw [e1, e2, bshl1 _ (by omega), bshl1 _ (by omega)]
          exact cols_eq (C + U) hCU (C + L) (by omega) (by omega)
        have hcl := cols_lt (C + U) hCU (C + L) (by omega)
        rw [n1, n2, hwr]
        simp only [Option.bind_some]
        rw [e3, geti_nat, ha]
        simp only [Option.bind_some]
        rw [band_nat (by omega) (by omega), bor_nat (by omega) (by omega)]
        have hzi : ∀ b : Nat, hasB z (R + i) b = hasB tk (R + i) b := fun b => by
          rw [Bool.eq_iff_iff, hz]
          exact ⟨fun h => h.resolve_right fun ⟨k, s, h1, h2, h3, _⟩ => by omega, .inl⟩
        by_cases hov : a &&& cols (C + L) (C + U) = 0
        · rw [hov]
          refine .inl ⟨setx z ((R + i : Nat) : Int) ((a ||| cols (C + L) (C + U) : Nat) : Int), rfl, hTz.set (Nat.or_lt_two_pow (n := 8) hab hcl), fun a' b => ?_, fun k s hk hs b h1 h2 => ?_⟩
          · rw [hasB_set hTz (by omega)]
            by_cases e : a' = R + i
            · subst e
              rw [if_pos rfl, Nat.testBit_or, ← hbit, Bool.or_eq_true, hz, cols_bit hCU (by omega), Bool.and_eq_true, decide_eq_true_iff, decide_eq_true_iff]
              constructor
              · rintro ((h | ⟨k, s, h1, h2, h3, h4⟩) | h)
                · exact .inl h
                · exact .inr ⟨k, s, by omega, h2, h3, h4⟩
                · exact .inr ⟨i, x, by omega, hx, rfl, by omega, by omega⟩
              · rintro (h | ⟨k, s, h1, h2, h3, h4, h5⟩)
                · exact .inl (.inl h)
                · obtain rfl : k = i := by omega
                  rw [hx] at h2; cases h2
                  exact .inr (by omega)
            · rw [if_neg e, hz]
              constructor
              · rintro (h | ⟨k, s, h1, h2, h3, h4⟩)
                · exact .inl h
                · exact .inr ⟨k, s, by omega, h2, h3, h4⟩
              · rintro (h | ⟨k, s, h1, h2, h3, h4, h5⟩)
                · exact .inl h
                · exact .inr ⟨k, s, by omega, h2, h3, h4, h5⟩
          · rcases Nat.lt_or_ge k i with hki | hki
            · exact hfit k s hki hs b h1 h2
            · obtain rfl : k = i := by omega
              rw [hx] at hs; cases hs
              refine ⟨by omega, by omega, fun hbad => ?_⟩
              have hb := hbad.2.2
              rw [show (pl.Row + (k : Int)).toNat = R + k by omega, ← hzi, hbit] at hb
              have hand : (a &&& cols (C + L) (C + U)).testBit b.toNat = true := by
                rw [Nat.testBit_and, hb, cols_bit hCU (by omega), decide_eq_true (show C + L ≤ b.toNat by omega), decide_eq_true (show b.toNat ≤ C + U by omega)]; rfl
              rw [hov] at hand; simp at hand
        · refine .inr ⟨.inl (false, tk, lay), ?_, rfl, fun hF => ?_⟩
          · rw [if_pos (by simpa using hov)]
          · obtain ⟨b, hb⟩ := Nat.exists_testBit_of_ne_zero hov
            rw [Nat.testBit_and, Bool.and_eq_true, cols_bit hCU (by omega), Bool.and_eq_true, decide_eq_true_iff, decide_eq_true_iff] at hb
            have h5 := (hF _ _ (covx (b : Int) (by omega) (by omega))).2.2
            exact h5 ⟨by omega, by omega, by rw [show (pl.Row + (i : Int)).toNat = R + i by omega, ← hzi, hbit]; exact hb.1⟩) (fun z hI => by
      refine ⟨.inr z, by rw [F_lays_cloth_put_s1, dlt]; simp, hI.1, fun a b => ?_, ?_⟩
      · rw [hI.2.1]
        constructor
        · rintro (h | ⟨k, s, _, h⟩)
          · exact .inl h
          · exact .inr ⟨k, s, h⟩
        · rintro (h | ⟨k, s, h1, h2⟩)
          · exact .inl h
          · exact .inr ⟨k, s, (List.getElem?_eq_some_iff.1 h1).1, h1, h2⟩
      · rintro r x ⟨k, s, h1, rfl, h2, h3⟩
        exact hI.2.2 k s (List.getElem?_eq_some_iff.1 h1).1 h1 x h2 h3) (by omega)
  rw [show ((0 : Int), tk) = (((0 : Nat) : Int), tk) from rfl, hr]
  cases r with
  | inl y => exact ⟨y, rfl, .inr ⟨by rw [hpost.1], hpost.2⟩⟩
  | inr z =>
    obtain ⟨h1, h2, h3⟩ := hpost
    refine ⟨(true, z, lay ++ [pl]), by simp only [Option.bind_some]; rw [lim_ok (by rw [List.length_append]; simp; omega)]; rfl, .inl ⟨rfl, h3, h1, rfl, fun r x => ?_⟩⟩
    constructor
    · rintro ⟨k1, k2, k3⟩
      rcases (h2 _ _).1 k3 with h | ⟨k, s, g1, g2, g3, g4⟩
      · exact .inl ⟨k1, k2, h⟩
      · exact .inr ⟨k, s, g1, by omega, by omega, by omega⟩
    · rintro (⟨k1, k2, k3⟩ | ⟨k, s, g1, g2, g3, g4⟩)
      · exact ⟨k1, k2, (h2 _ _).2 (.inl k3)⟩
      · have := hRr s (List.mem_of_getElem? g1)
        exact ⟨by omega, by omega, (h2 _ _).2 (.inr ⟨k, s, g1, by omega, by omega, by omega⟩)⟩
end
end Go.Proofs.Ytflhjlgimihmgaa
end
section
namespace Go.Proofs.Ytflhjlgimihmgaa
open Go Go.RowKit Go.Dec
/-- panels laid, one beside the other, in the first n rows, none on what is bad -/
def LayIn (W n : Int) : (Int → Int → Prop) → List Panel → List Place → Prop
  | _, [], [] => True
  | bad, p :: ps, pl :: pls => PlOK pl ∧ Fits W n bad (rowsT p pl.Turned) pl ∧ LayIn W n (fun r c => bad r c ∨ cov (rowsT p pl.Turned) pl r c) ps pls
  | _, _, _ => False
theorem LayIn.mono {W n n' : Int} (hn : n ≤ n') : ∀ {ps : List Panel} {pls : List Place} {bad bad' : Int → Int → Prop}, (∀ r c, bad' r c → bad r c) → LayIn W n bad ps pls → LayIn W n' bad' ps pls
  | [], [], _, _, _, _ => trivial
  | p :: ps, pl :: pls, _, _, hb, ⟨h1, h2, h3⟩ => ⟨h1, fun r c hc => ⟨by have := (h2 r c hc).1; omega, (h2 r c hc).2.1, fun h => (h2 r c hc).2.2 (hb r c h)⟩, h3.mono hn fun r c h => h.imp (hb r c) id⟩
theorem LayIn.len {W n : Int} : ∀ {ps : List Panel} {pls : List Place} {bad : Int → Int → Prop}, LayIn W n bad ps pls → pls.length = ps.length
  | [], [], _, _ => rfl
  | _ :: ps, _ :: pls, _, ⟨_, _, h⟩ => by simp [h.len]
/-- there is a lay in the first n rows -/
def Has (s : Lap) (bad : Int → Int → Prop) (n : Int) : Prop := ∃ pls, LayIn s.Width n bad s.Panels pls
theorem Has.mono {s : Lap} {bad bad' : Int → Int → Prop} {n n' : Int} (hn : n ≤ n') (hb : ∀ r c, bad' r c → bad r c) (h : Has s bad n) : Has s bad' n' := let ⟨pls, h⟩ := h; ⟨pls, h.mono hn hb⟩
/-- the least number of rows, with a lay -/
def LeastIs (s : Lap) (bad : Int → Int → Prop) (m : Int) (lay : List Place) : Prop :=
  ((0 ≤ m ∧ m ≤ s.Length) ∧ LayIn s.Width m bad s.Panels lay ∧ ∀ k, 0 ≤ k → k < m → ¬ Has s bad k) ∨ (m = -1 ∧ lay = [] ∧ ∀ k, 0 ≤ k → k ≤ s.Length → ¬ Has s bad k)
theorem first_in {W m : Int} {bad : Int → Int → Prop} {rs : List Span} {pl : Place} (hR : VPn ⟨rs⟩) (h : Fits W m bad rs pl) : pl.Row < m ∧ pl.Col < W := by
  obtain ⟨hn, hr, s, hs, h0⟩ := hR
  simp only at hn hr hs
  obtain ⟨k, hk⟩ := List.mem_iff_getElem?.1 hs
  have hs' := hr s hs
  have h1 := h (pl.Row + k) pl.Col ⟨k, s, hk, rfl, by omega, by omega⟩
  exact ⟨by omega, h1.2.1⟩
section
variable {n : Nat}
theorem p_fill {c : Lap} (hv : VL c) {m : Int} (hm : 0 ≤ m ∧ m ≤ 12) : ∀ (d n : Nat), 1000001 + d ≤ n → ∀ (tk : List Int) (lay : List Place), TK tk → lay.length + d = c.Panels.length →
    ∃ y, F_lays_cloth_fill n c m tk lay = some y ∧ ((y.1 = true ∧ ∃ pls, y.2.2 = lay ++ pls ∧ LayIn c.Width m (badT tk) (c.Panels.drop lay.length) pls) ∨ (y.1 = false ∧ ¬ ∃ pls, LayIn c.Width m (badT tk) (c.Panels.drop lay.length) pls)) := by
  have hW := hv.w
  have hnp := hv.np
  intro d
  induction d with
  | zero =>
    intro n hn tk lay hT hd
    obtain ⟨n, rfl⟩ : ∃ k, n = k + 1 := ⟨n - 1, by omega⟩
    rw [F_lays_cloth_fill]
    dsimp only
    rw [if_pos (by simp; omega)]
    exact ⟨_, rfl, .inl ⟨rfl, [], by simp, by rw [List.drop_of_length_le (by omega)]; trivial⟩⟩
  | succ d ih =>
    intro n hn tk lay hT hd
    obtain ⟨n, rfl⟩ : ∃ k, n = k + 1 := ⟨n - 1, by omega⟩
    rw [F_lays_cloth_fill]
    dsimp only
    rw [if_neg (by simp; omega)]
    have hlt : lay.length < c.Panels.length := by omega
    obtain ⟨p, hp⟩ : ∃ p, c.Panels[lay.length]? = some p := ⟨_, List.getElem?_eq_getElem hlt⟩
    have hvp := hv.p p (List.mem_of_getElem? hp)
    have hdrop : c.Panels.drop lay.length = p :: c.Panels.drop (lay.length + 1) := by
      rw [List.drop_eq_getElem_cons hlt]
      congr 1
      rw [List.getElem?_eq_getElem hlt] at hp
      exact Option.some.inj hp
    rw [hdrop]
    obtain ⟨Start, hStart⟩ : ∃ S : Place → Prop, S = fun pl => ∃ pls, LayIn c.Width m (badT tk) (p :: c.Panels.drop (lay.length + 1)) (pl :: pls) := ⟨_, rfl⟩
    obtain ⟨Good, hGood⟩ : ∃ G : Bool × List Int × List Place → Prop, G = fun y => y.1 = true ∧ ∃ pls, y.2.2 = lay ++ pls ∧ LayIn c.Width m (badT tk) (p :: c.Panels.drop (lay.length + 1)) pls := ⟨_, rfl⟩
    -- one place
    have one : ∀ pl : Place, PlOK pl → pl.Row ≤ 12 ∧ pl.Col ≤ 12 → ∃ y, F_lays_cloth_put n c m tk lay (lay.length : Int) pl = some y ∧ ((y.1 = true ∧ ∃ z, F_lays_cloth_fill n c m y.2.1 y.2.2 = some z ∧ ((z.1 = true ∧ Good (true, z.2.1, z.2.2)) ∨ (z.1 = false ∧ ¬ Start pl))) ∨ (y.1 = false ∧ ¬ Start pl)) := by
      intro pl hpl hpb
      obtain ⟨y, hy, h⟩ := p_put (n := n) (by omega) hv hm hT lay (by omega) hp hpl hpb
      refine ⟨y, hy, ?_⟩
      rcases h with ⟨h1, h2, h3, h4, h5⟩ | ⟨h1, h2⟩
      · refine .inl ⟨h1, ?_⟩
        obtain ⟨z, hz, h⟩ := ih n (by omega) y.2.1 y.2.2 h3 (by rw [h4, List.length_append]; simp; omega)
        refine ⟨z, hz, ?_⟩
        have hlen : y.2.2.length = lay.length + 1 := by rw [h4, List.length_append]; rfl
        rw [hlen] at h
        have conv : ∀ pls, LayIn c.Width m (badT y.2.1) (c.Panels.drop (lay.length + 1)) pls ↔ LayIn c.Width m (fun r x => badT tk r x ∨ cov (rowsT p pl.Turned) pl r x) (c.Panels.drop (lay.length + 1)) pls := fun pls =>
          ⟨fun h => h.mono (Int.le_refl _) fun r x => (h5 r x).2, fun h => h.mono (Int.le_refl _) fun r x => (h5 r x).1⟩
        rcases h with ⟨k1, pls, k2, k3⟩ | ⟨k1, k2⟩
        · refine .inl ⟨k1, ?_⟩
          rw [hGood]
          exact ⟨rfl, pl :: pls, by simp only; rw [k2, h4]; simp, hpl, h2, (conv pls).1 k3⟩
        · refine .inr ⟨k1, ?_⟩
          rw [hStart]
          rintro ⟨pls, _, _, h6⟩
          exact k2 ⟨pls, (conv pls).2 h6⟩
      · refine .inr ⟨h1, ?_⟩
        rw [hStart]
        rintro ⟨pls, _, h6, _⟩
        exact h2 h6
    -- the three loops
    have turn : ∀ row col : Nat, row ≤ 12 → col ≤ 12 → ∃ r, loopO n (F_lays_cloth_fill_s3 n (F_lays_cloth_fill n) c m tk lay (row : Int) (col : Int)) 0 = some r ∧ (match r with | .inl o => ∃ y, o = .inr (.inl (.inr (.inl y))) ∧ Good y | .inr _ => ∀ t : Int, t = 0 ∨ t = 1 → ¬ Start ⟨row, col, t⟩) := by
      intro row col hrow hcol
      refine loop_nats (step := F_lays_cloth_fill_s3 n (F_lays_cloth_fill n) c m tk lay (row : Int) (col : Int)) 2 (fun i (_ : Unit) => (i : Int)) (fun i _ => ∀ t : Nat, t < i → ¬ Start ⟨row, col, t⟩)
        (fun r => match r with | .inl o => ∃ y, o = .inr (.inl (.inr (.inl y))) ∧ Good y | .inr _ => ∀ t : Int, t = 0 ∨ t = 1 → ¬ Start ⟨row, col, t⟩) (n := n) () (by intro t h; omega) (fun i _ hi hI => ?_) (fun _ hI => ?_) (by omega)
      · obtain ⟨y, hy, h⟩ := one ⟨row, col, i⟩ ⟨by simp only; omega, by simp only; omega, by simp only; omega⟩ ⟨by simp only; omega, by simp only; omega⟩
        rw [F_lays_cloth_fill_s3, decide_eq_true (show (i : Int) < 2 by omega)]
        simp only [if_true, hy, Option.bind_some]
        have next : ¬ Start ⟨row, col, i⟩ → ∀ t : Nat, t < i + 1 → ¬ Start ⟨row, col, t⟩ := fun h t ht => by
          rcases Nat.lt_or_ge t i with h' | h'
          · exact hI t h'
          · obtain rfl : t = i := by omega
            exact h
        rcases h with ⟨h1, z, hz, h⟩ | ⟨h1, h2⟩
        · rw [if_pos h1, hz]
          simp only [Option.bind_some]
          rcases h with ⟨k1, k2⟩ | ⟨k1, k2⟩
          · rw [if_pos k1]; exact .inr ⟨_, rfl, _, rfl, k2⟩
          · rw [if_neg (by rw [k1]; decide), w64_nat (by omega)]; exact .inl ⟨(), rfl, next k2⟩
        · rw [if_neg (by rw [h1]; decide), w64_nat (by omega)]; exact .inl ⟨(), rfl, next h2⟩
      · refine ⟨.inr (), by rw [F_lays_cloth_fill_s3]; simp, fun t ht => ?_⟩
        rcases ht with rfl | rfl
        · exact hI 0 (by omega)
        · exact hI 1 (by omega)
    have colL : ∀ row : Nat, row ≤ 12 → ∃ r, loopO n (F_lays_cloth_fill_s2 n (F_lays_cloth_fill n) c m tk lay (row : Int)) 0 = some r ∧ (match r with | .inl o => ∃ y, o = .inr (.inl y) ∧ Good y | .inr _ => ∀ (col : Nat) (t : Int), (col : Int) < c.Width → t = 0 ∨ t = 1 → ¬ Start ⟨row, col, t⟩) := by
      intro row hrow
      refine loop_nats (step := F_lays_cloth_fill_s2 n (F_lays_cloth_fill n) c m tk lay (row : Int)) c.Width.toNat (fun i (_ : Unit) => (i : Int)) (fun i _ => ∀ (col : Nat) (t : Int), col < i → t = 0 ∨ t = 1 → ¬ Start ⟨row, col, t⟩)
        (fun r => match r with | .inl o => ∃ y, o = .inr (.inl y) ∧ Good y | .inr _ => ∀ (col : Nat) (t : Int), (col : Int) < c.Width → t = 0 ∨ t = 1 → ¬ Start ⟨row, col, t⟩) (n := n) () (by intro col t h; omega) (fun i _ hi hI => ?_) (fun _ hI => ?_) (by omega)
      · obtain ⟨r, hr, h⟩ := turn row i hrow (by omega)
        rw [F_lays_cloth_fill_s2, decide_eq_true (show (i : Int) < c.Width by omega)]
        simp only [if_true, hr, Option.bind_some]
        cases r with
        | inl o =>
          obtain ⟨y, rfl, hg⟩ := h
          exact .inr ⟨_, rfl, y, rfl, hg⟩
        | inr u =>
          simp only [w64_nat (show i ≤ 4611686018427387904 by omega)]
          refine .inl ⟨(), by trivial, fun col t hc ht => ?_⟩
          rcases Nat.lt_or_ge col i with h' | h'
          · exact hI col t h' ht
          · obtain rfl : col = i := by omega
            exact h t ht
      · refine ⟨.inr (), by rw [F_lays_cloth_fill_s2, decide_eq_false (by omega)]; rfl, fun col t hc ht => hI col t (by omega) ht⟩
    obtain ⟨r, hr, h⟩ : ∃ r, loopO n (F_lays_cloth_fill_s1 n (F_lays_cloth_fill n) c m tk lay) 0 = some r ∧ (match r with | .inl y => Good y | .inr _ => ∀ (row col : Nat) (t : Int), (row : Int) < m → (col : Int) < c.Width → t = 0 ∨ t = 1 → ¬ Start ⟨row, col, t⟩) := by
      refine loop_nats (step := F_lays_cloth_fill_s1 n (F_lays_cloth_fill n) c m tk lay) m.toNat (fun i (_ : Unit) => (i : Int)) (fun i _ => ∀ (row col : Nat) (t : Int), row < i → (col : Int) < c.Width → t = 0 ∨ t = 1 → ¬ Start ⟨row, col, t⟩)
        (fun r => match r with | .inl y => Good y | .inr _ => ∀ (row col : Nat) (t : Int), (row : Int) < m → (col : Int) < c.Width → t = 0 ∨ t = 1 → ¬ Start ⟨row, col, t⟩) (n := n) () (by intro row col t h; omega) (fun i _ hi hI => ?_) (fun _ hI => ?_) (by omega)
      · obtain ⟨r, hr, h⟩ := colL i (by omega)
        rw [F_lays_cloth_fill_s1, decide_eq_true (show (i : Int) < m by omega)]
        simp only [if_true, hr, Option.bind_some]
        cases r with
        | inl o =>
          obtain ⟨y, rfl, hg⟩ := h
          exact .inr ⟨_, rfl, hg⟩
        | inr u =>
          simp only [w64_nat (show i ≤ 4611686018427387904 by omega)]
          refine .inl ⟨(), by trivial, fun row col t hr hc ht => ?_⟩
          rcases Nat.lt_or_ge row i with h' | h'
          · exact hI row col t h' hc ht
          · obtain rfl : row = i := by omega
            exact h col t hc ht
      · refine ⟨.inr (), by rw [F_lays_cloth_fill_s1, decide_eq_false (by omega)]; rfl, fun row col t hr hc ht => hI row col t (by omega) hc ht⟩
    rw [hr]
    cases r with
    | inl y =>
      simp only at h
      rw [hGood] at h
      exact ⟨y, rfl, .inl h⟩
    | inr u =>
      simp only at h
      refine ⟨(false, tk, lay), rfl, .inr ⟨rfl, ?_⟩⟩
      rintro ⟨pls, hpls⟩
      cases pls with
      | nil => exact hpls
      | cons pl pls =>
        have hf := first_in (hvp.turn pl.Turned) hpls.2.1
        obtain ⟨k1, k2, k3⟩ := hpls.1
        refine h pl.Row.toNat pl.Col.toNat pl.Turned (by omega) (by omega) k3 ?_
        rw [hStart]
        refine ⟨pls, ?_⟩
        have e : (⟨((pl.Row.toNat : Nat) : Int), ((pl.Col.toNat : Nat) : Int), pl.Turned⟩ : Place) = pl := by
          obtain ⟨a, b, t⟩ := pl
          simp only at k1 k2
          simp only [Place.mk.injEq, and_true]
          omega
        rw [e]; exact hpls
theorem p_least (hn : 2000000 ≤ n) {s : Lap} (hv : VL s) {tk : List Int} (hT : TK tk) : ∃ m lay, F_lays_least n s tk = some (m, lay) ∧ LeastIs s (badT tk) m lay := by
  have hL := hv.l
  have hnp := hv.np
  rw [F_lays_least]
  have hw : w64 (s.Length + 1) = s.Length + 1 := w64_id (by omega) (by omega)
  obtain ⟨r, hr, h⟩ := loop_nats (step := F_lays_least_s1 n s tk) (s.Length + 1).toNat (fun i (_ : Unit) => (i : Int)) (fun i _ => ∀ k : Int, 0 ≤ k → k < i → ¬ Has s (badT tk) k)
    (fun r => match r with | .inl y => (0 ≤ y.1 ∧ y.1 ≤ s.Length) ∧ LayIn s.Width y.1 (badT tk) s.Panels y.2 ∧ ∀ k, 0 ≤ k → k < y.1 → ¬ Has s (badT tk) k | .inr _ => ∀ k, 0 ≤ k → k ≤ s.Length → ¬ Has s (badT tk) k) (n := n) () (by intro k h0 h1; omega) (fun i _ hi hI => by
      obtain ⟨y, hy, h⟩ := p_fill hv (m := (i : Int)) ⟨by omega, by omega⟩ s.Panels.length n (by omega) tk [] hT (by simp)
      rw [F_lays_least_s1, hw, decide_eq_true (show (i : Int) < s.Length + 1 by omega)]
      simp only [if_true, hy, Option.bind_some]
      simp only [List.length_nil, List.drop_zero, List.nil_append] at h
      rcases h with ⟨h1, pls, h2, h3⟩ | ⟨h1, h2⟩
      · rw [if_pos h1]
        exact .inr ⟨_, rfl, ⟨by simp only; omega, by simp only; omega⟩, by simp only; rw [h2]; exact h3, hI⟩
      · rw [if_neg (by rw [h1]; decide), w64_nat (by omega)]
        refine .inl ⟨(), rfl, fun k h0 hk => ?_⟩
        rcases Int.lt_or_le k (i : Int) with h' | h'
        · exact hI k h0 h'
        · obtain rfl : k = (i : Int) := by omega
          exact h2) (fun _ hI => by
      refine ⟨.inr (), by rw [F_lays_least_s1, hw, decide_eq_false (by omega)]; rfl, fun k h0 hk => hI k h0 (by omega)⟩) (by omega)
  rw [show (0 : Int) = ((0 : Nat) : Int) from rfl, hr]
  cases r with
  | inl y => exact ⟨y.1, y.2, rfl, .inl h⟩
  | inr u => exact ⟨-1, [], rfl, .inr ⟨rfl, rfl, h⟩⟩
def isBad (ls : List (List Cell)) (r c : Int) : Prop := ∃ l ∈ ls, (⟨r, c⟩ : Cell) ∈ l
theorem LeastIs.congr {s : Lap} {bad bad' : Int → Int → Prop} (hb : ∀ r c, bad r c ↔ bad' r c) {m : Int} {lay : List Place} (h : LeastIs s bad m lay) : LeastIs s bad' m lay := by
  have e : ∀ k, Has s bad' k → Has s bad k := fun k => Has.mono (Int.le_refl _) fun r c => (hb r c).1
  rcases h with ⟨h1, h2, h3⟩ | ⟨h1, h2, h3⟩
  · exact .inl ⟨h1, h2.mono (Int.le_refl _) fun r c => (hb r c).2, fun k h0 hk h => h3 k h0 hk (e k h)⟩
  · exact .inr ⟨h1, h2, fun k h0 hk h => h3 k h0 hk (e k h)⟩
theorem VL.cell {s : Lap} (h : VL s) {c : Cell} (hc : InC s c) : (0 ≤ c.Row ∧ c.Row < 12) ∧ 0 ≤ c.Col ∧ c.Col < 8 := by
  obtain ⟨⟨h1, h2⟩, h3, h4⟩ := hc
  have := h.l; have := h.w
  exact ⟨⟨h1, by omega⟩, h3, by omega⟩
theorem badT_isBad {tk : List Int} {ls : List (List Cell)} (hc : ∀ l ∈ ls, ∀ c ∈ l, (0 ≤ c.Row ∧ c.Row < 12) ∧ 0 ≤ c.Col ∧ c.Col < 8) (h : ∀ r c, hasB tk r c = true ↔ ∃ l ∈ ls, ∃ x ∈ l, x.Row = (r : Nat) ∧ x.Col = (c : Nat)) (r c : Int) : badT tk r c ↔ isBad ls r c := by
  constructor
  · rintro ⟨h0, h1, h2⟩
    obtain ⟨l, hl, x, hx, e1, e2⟩ := (h _ _).1 h2
    refine ⟨l, hl, ?_⟩
    have : x = ⟨r, c⟩ := cell_ext (by rw [e1]; simp only; omega) (by rw [e2]; simp only; omega)
    exact this ▸ hx
  · rintro ⟨l, hl, hx⟩
    have := hc l hl _ hx
    simp only at this
    exact ⟨by omega, by omega, (h _ _).2 ⟨l, hl, _, hx, by simp only; omega, by simp only; omega⟩⟩
/-- cells of the cloth, as bits, and the least lay beside them -/
theorem p_leastOf (hn : 2000000 ≤ n) {s : Lap} (hv : VL s) (ls : List (List Cell)) (hls : ls.length ≤ 2) (hl : ∀ l ∈ ls, l.length ≤ 100) (hc : ∀ l ∈ ls, ∀ c ∈ l, InC s c) :
    ∃ tk m lay, F_lays_cellsOf n ls = some tk ∧ lenck 12 tk = some () ∧ TK tk ∧ (∀ r c, badT tk r c ↔ isBad ls r c) ∧ F_lays_least n s tk = some (m, lay) ∧ LeastIs s (isBad ls) m lay := by
  have hc' : ∀ l ∈ ls, ∀ c ∈ l, (0 ≤ c.Row ∧ c.Row < 12) ∧ 0 ≤ c.Col ∧ c.Col < 8 := fun l h c h' => hv.cell (hc l h c h')
  obtain ⟨tk, h1, h2, h3, h4⟩ := p_cellsOf (n := n) (by omega) ls hls hl hc'
  obtain ⟨m, lay, h5, h6⟩ := p_least hn hv h3
  have hb := badT_isBad hc' h4
  exact ⟨tk, m, lay, h1, h2, h3, hb, h5, h6.congr hb⟩
/-- the answer: rows and no error, or none -/
def ans (m : Int) : Int × Int := if m < 0 then (0, 3) else (m, 0)
def allB (s : Lap) : Int → Int → Prop := isBad [s.Faults, s.Flaws]
def sureB (s : Lap) : Int → Int → Prop := isBad [s.Faults]
theorem p_sure (hn : 2000000 ≤ n) {s : Lap} (hv : VL s) : ∃ m lay, F_lays_sure n s = some ((ans m).1, lay, (ans m).2) ∧ LeastIs s (allB s) m lay := by
  obtain ⟨tk, m, lay, h1, h2, _, _, h5, h6⟩ := p_leastOf hn hv [s.Faults, s.Flaws] (by simp) (fun l hl => by
    simp only [List.mem_cons, List.not_mem_nil, or_false] at hl
    rcases hl with rfl | rfl
    · have := hv.fa.2.2; omega
    · have := hv.fl.2.2; omega) (fun l hl c hc => by
    simp only [List.mem_cons, List.not_mem_nil, or_false] at hl
    rcases hl with rfl | rfl
    · exact (hv.fa.1 c hc).1
    · exact (hv.fl.1 c hc).1)
  refine ⟨m, lay, ?_, h6⟩
  rw [F_lays_sure, p_LCheck0 (by omega) hv]
  simp only [Option.bind_some, h1, h2, h5, ans]
  rw [if_neg (by decide)]
  by_cases hm : m < 0
  · rw [decide_eq_true hm, if_pos hm, if_pos rfl]
    rcases h6 with ⟨h, _⟩ | ⟨_, e, _⟩
    · omega
    · rw [e]
  · rw [decide_eq_false hm, if_neg hm]; rfl
theorem p_Least (hn : 2000000 ≤ n) {s : Lap} (hv : VL s) : ∃ m lay, F_lays_Least n s = some (ans m) ∧ F_lays_Lay n s = some (lay, (ans m).2) ∧ LeastIs s (allB s) m lay := by
  obtain ⟨m, lay, h1, h2⟩ := p_sure hn hv
  exact ⟨m, lay, by rw [F_lays_Least, h1]; rfl, by rw [F_lays_Lay, h1]; rfl, h2⟩
theorem p_Hopes (hn : 2000000 ≤ n) {s : Lap} (hv : VL s) : ∃ m lay, F_lays_Hopes n s = some (ans m) ∧ LeastIs s (sureB s) m lay := by
  obtain ⟨tk, m, lay, h1, h2, _, _, h5, h6⟩ := p_leastOf hn hv [s.Faults] (by simp) (fun l hl => by
    simp only [List.mem_cons, List.not_mem_nil, or_false] at hl
    subst hl; have := hv.fa.2.2; omega) (fun l hl c hc => by
    simp only [List.mem_cons, List.not_mem_nil, or_false] at hl
    subst hl; exact (hv.fa.1 c hc).1)
  refine ⟨m, lay, ?_, h6⟩
  rw [F_lays_Hopes, p_LCheck0 (by omega) hv]
  simp only [Option.bind_some, h1, h2, h5, ans]
  rw [if_neg (by decide)]
  by_cases hm : m < 0
  · rw [decide_eq_true hm, if_pos hm, if_pos rfl]
  · rw [decide_eq_false hm, if_neg hm]; rfl
end
/-- fewer bad cells, or more rows: not less -/
theorem LeastIs.le {a b : Lap} {bad bad' : Int → Int → Prop} (hl : a.Length ≤ b.Length) (h : ∀ k, 0 ≤ k → Has a bad k → Has b bad' k) {m m' : Int} {lay lay' : List Place} (ha : LeastIs a bad m lay) (hb : LeastIs b bad' m' lay') (h0 : 0 ≤ m) : 0 ≤ m' ∧ m' ≤ m := by
  rcases ha with ⟨⟨_, h1⟩, h2, _⟩ | ⟨h1, _⟩
  · have hh := h m h0 ⟨lay, h2⟩
    rcases hb with ⟨⟨h3, _⟩, _, h4⟩ | ⟨_, _, h4⟩
    · refine ⟨h3, ?_⟩
      rcases Int.lt_or_le m m' with hlt | hle
      · exact absurd hh (h4 m h0 hlt)
      · exact hle
    · exact absurd hh (h4 m h0 (by omega))
  · omega
theorem LeastIs.m_eq {s : Lap} {bad : Int → Int → Prop} {m : Int} {lay : List Place} (h : LeastIs s bad m lay) : 0 ≤ m ∨ m = -1 := by
  rcases h with ⟨h, _⟩ | ⟨h, _⟩
  · exact .inl h.1
  · exact .inr h
end Go.Proofs.Ytflhjlgimihmgaa
end
section
namespace Go.Dec
open Go Go.RowKit
theorem Kept.plain {H : Hp} {w w' : World} (h : Kept H w w') (hh : H.hole = none) : Below w.heap.size w w' :=
  ⟨h.below.os, h.below.tape, h.below.output, h.below.size, fun k hk => h.below.block k hk (fun I e => by rw [hh] at e; cases e)⟩
end Go.Dec
end
section
namespace Go.Proofs.Ytflhjlgimihmgaa
open Go Go.RowKit Go.Dec
set_option linter.unusedVariables false
def W_Cell (x : Cell) : Prop := I64 x.Row ∧ I64 x.Col
set_option maxRecDepth 100000 in
theorem o_Cell {T : Type} {enc : TypeId × Value → T} : Opens enc Try.prog 27 2 R_Cell W_Cell := by
  intro w base sp held fuel cs y h
  obtain ⟨xs, n, _, rfl, hl, hlen, hf⟩ := DataW.trod_struct Try.underlying27 h
  have hl2 : cs.length = 2 := hl.trans (by kernel_rfl)
  have hx : xs.length = 2 := hlen
  obtain ⟨c0, c1, rfl⟩ : ∃ c0 c1, cs = [c0, c1] := by
    match cs, hl2 with
    | [c0, c1], _ => exact ⟨_, _, rfl⟩
  have co3 : Try.prog.cellsOf 3 = 1 := by kernel_rfl
  have e0 : DataW.trod enc Try.prog w base sp held n 3 (([c0, c1].drop 0).take (Try.prog.cellsOf 3)) = xs[0]? := hf 0 _ rfl
  rw [co3] at e0
  obtain ⟨_, x0, r0, w0⟩ := (Opens.int (by kernel_rfl)) _ _ _ _ _ _ _ (e0.trans (List.getElem?_eq_getElem (by omega)))
  have e1 : DataW.trod enc Try.prog w base sp held n 3 (([c0, c1].drop 1).take (Try.prog.cellsOf 3)) = xs[1]? := hf 1 _ rfl
  rw [co3] at e1
  obtain ⟨_, x1, r1, w1⟩ := (Opens.int (by kernel_rfl)) _ _ _ _ _ _ _ (e1.trans (List.getElem?_eq_getElem (by omega)))
  have q0 : [c0] = [_] := r0
  cases q0
  have q1 : [c1] = [_] := r1
  cases q1
  exact ⟨rfl, ⟨x0, x1⟩, rfl, w0, w1⟩
def W_Span (x : Span) : Prop := I64 x.Low ∧ I64 x.High
set_option maxRecDepth 100000 in
theorem o_Span {T : Type} {enc : TypeId × Value → T} : Opens enc Try.prog 46 2 R_Span W_Span := by
  intro w base sp held fuel cs y h
  obtain ⟨xs, n, _, rfl, hl, hlen, hf⟩ := DataW.trod_struct Try.underlying46 h
  have hl2 : cs.length = 2 := hl.trans (by kernel_rfl)
  have hx : xs.length = 2 := hlen
  obtain ⟨c0, c1, rfl⟩ : ∃ c0 c1, cs = [c0, c1] := by
    match cs, hl2 with
    | [c0, c1], _ => exact ⟨_, _, rfl⟩
  have co3 : Try.prog.cellsOf 3 = 1 := by kernel_rfl
  have e0 : DataW.trod enc Try.prog w base sp held n 3 (([c0, c1].drop 0).take (Try.prog.cellsOf 3)) = xs[0]? := hf 0 _ rfl
  rw [co3] at e0
  obtain ⟨_, x0, r0, w0⟩ := (Opens.int (by kernel_rfl)) _ _ _ _ _ _ _ (e0.trans (List.getElem?_eq_getElem (by omega)))
  have e1 : DataW.trod enc Try.prog w base sp held n 3 (([c0, c1].drop 1).take (Try.prog.cellsOf 3)) = xs[1]? := hf 1 _ rfl
  rw [co3] at e1
  obtain ⟨_, x1, r1, w1⟩ := (Opens.int (by kernel_rfl)) _ _ _ _ _ _ _ (e1.trans (List.getElem?_eq_getElem (by omega)))
  have q0 : [c0] = [_] := r0
  cases q0
  have q1 : [c1] = [_] := r1
  cases q1
  exact ⟨rfl, ⟨x0, x1⟩, rfl, w0, w1⟩
def W_Panel (x : Panel) : Prop := (fun (l : List Span) => (∀ x ∈ l, W_Span x) ∧ l.length ≤ 9223372036854775807) x.Rows
set_option maxRecDepth 100000 in
theorem o_Panel {T : Type} {enc : TypeId × Value → T} : Opens enc Try.prog 30 1 R_Panel W_Panel := by
  intro w base sp held fuel cs y h
  obtain ⟨xs, n, _, rfl, hl, hlen, hf⟩ := DataW.trod_struct Try.underlying30 h
  have hl2 : cs.length = 1 := hl.trans (by kernel_rfl)
  have hx : xs.length = 1 := hlen
  obtain ⟨c0, rfl⟩ : ∃ c0, cs = [c0] := by
    match cs, hl2 with
    | [c0], _ => exact ⟨_, rfl⟩
  have co28 : Try.prog.cellsOf 28 = 1 := by kernel_rfl
  have e0 : DataW.trod enc Try.prog w base sp held n 28 (([c0].drop 0).take (Try.prog.cellsOf 28)) = xs[0]? := hf 0 _ rfl
  rw [co28] at e0
  obtain ⟨_, x0, r0, w0⟩ := (Opens.slice (e := 46) (sz := 2) (by kernel_rfl) (by kernel_rfl) rfl o_Span) _ _ _ _ _ _ _ (e0.trans (List.getElem?_eq_getElem (by omega)))
  obtain ⟨v0, q0, s0⟩ := r0
  have q0 : [c0] = [v0] := q0
  cases q0
  exact ⟨rfl, ⟨x0⟩, ⟨c0, rfl, s0⟩, w0⟩
def W_Lap (x : Lap) : Prop := I64 x.Width ∧ I64 x.Length ∧ (fun (l : List Cell) => (∀ x ∈ l, W_Cell x) ∧ l.length ≤ 9223372036854775807) x.Faults ∧ (fun (l : List Cell) => (∀ x ∈ l, W_Cell x) ∧ l.length ≤ 9223372036854775807) x.Flaws ∧ (fun (l : List Panel) => (∀ x ∈ l, W_Panel x) ∧ l.length ≤ 9223372036854775807) x.Panels
set_option maxRecDepth 100000 in
theorem o_Lap {T : Type} {enc : TypeId × Value → T} : Opens enc Try.prog 25 5 R_Lap W_Lap := by
  intro w base sp held fuel cs y h
  obtain ⟨xs, n, _, rfl, hl, hlen, hf⟩ := DataW.trod_struct Try.underlying25 h
  have hl2 : cs.length = 5 := hl.trans (by kernel_rfl)
  have hx : xs.length = 5 := hlen
  obtain ⟨c0, c1, c2, c3, c4, rfl⟩ : ∃ c0 c1 c2 c3 c4, cs = [c0, c1, c2, c3, c4] := by
    match cs, hl2 with
    | [c0, c1, c2, c3, c4], _ => exact ⟨_, _, _, _, _, rfl⟩
  have co3 : Try.prog.cellsOf 3 = 1 := by kernel_rfl
  have co22 : Try.prog.cellsOf 22 = 1 := by kernel_rfl
  have co23 : Try.prog.cellsOf 23 = 1 := by kernel_rfl
  have e0 : DataW.trod enc Try.prog w base sp held n 3 (([c0, c1, c2, c3, c4].drop 0).take (Try.prog.cellsOf 3)) = xs[0]? := hf 0 _ rfl
  rw [co3] at e0
  obtain ⟨_, x0, r0, w0⟩ := (Opens.int (by kernel_rfl)) _ _ _ _ _ _ _ (e0.trans (List.getElem?_eq_getElem (by omega)))
  have e1 : DataW.trod enc Try.prog w base sp held n 3 (([c0, c1, c2, c3, c4].drop 1).take (Try.prog.cellsOf 3)) = xs[1]? := hf 1 _ rfl
  rw [co3] at e1
  obtain ⟨_, x1, r1, w1⟩ := (Opens.int (by kernel_rfl)) _ _ _ _ _ _ _ (e1.trans (List.getElem?_eq_getElem (by omega)))
  have e2 : DataW.trod enc Try.prog w base sp held n 22 (([c0, c1, c2, c3, c4].drop 2).take (Try.prog.cellsOf 22)) = xs[2]? := hf 2 _ rfl
  rw [co22] at e2
  obtain ⟨_, x2, r2, w2⟩ := (Opens.slice (e := 27) (sz := 2) (by kernel_rfl) (by kernel_rfl) rfl o_Cell) _ _ _ _ _ _ _ (e2.trans (List.getElem?_eq_getElem (by omega)))
  have e3 : DataW.trod enc Try.prog w base sp held n 22 (([c0, c1, c2, c3, c4].drop 3).take (Try.prog.cellsOf 22)) = xs[3]? := hf 3 _ rfl
  rw [co22] at e3
  obtain ⟨_, x3, r3, w3⟩ := (Opens.slice (e := 27) (sz := 2) (by kernel_rfl) (by kernel_rfl) rfl o_Cell) _ _ _ _ _ _ _ (e3.trans (List.getElem?_eq_getElem (by omega)))
  have e4 : DataW.trod enc Try.prog w base sp held n 23 (([c0, c1, c2, c3, c4].drop 4).take (Try.prog.cellsOf 23)) = xs[4]? := hf 4 _ rfl
  rw [co23] at e4
  obtain ⟨_, x4, r4, w4⟩ := (Opens.slice (e := 30) (sz := 1) (by kernel_rfl) (by kernel_rfl) rfl o_Panel) _ _ _ _ _ _ _ (e4.trans (List.getElem?_eq_getElem (by omega)))
  have q0 : [c0] = [_] := r0
  cases q0
  have q1 : [c1] = [_] := r1
  cases q1
  obtain ⟨v2, q2, s2⟩ := r2
  have q2 : [c2] = [v2] := q2
  cases q2
  obtain ⟨v3, q3, s3⟩ := r3
  have q3 : [c3] = [v3] := q3
  cases q3
  obtain ⟨v4, q4, s4⟩ := r4
  have q4 : [c4] = [v4] := q4
  cases q4
  exact ⟨rfl, ⟨x0, x1, x2, x3, x4⟩, ⟨c2, c3, c4, rfl, s2, s3, s4⟩, w0, w1, w2, w3, w4⟩
def W_law03_Turn (x : law03_Turn) : Prop := I64 x.By ∧ I64 x.Panel
set_option maxRecDepth 100000 in
theorem o_law03_Turn {T : Type} {enc : TypeId × Value → T} : Opens enc Try.prog 42 2 R_law03_Turn W_law03_Turn := by
  intro w base sp held fuel cs y h
  obtain ⟨xs, n, _, rfl, hl, hlen, hf⟩ := DataW.trod_struct Try.underlying42 h
  have hl2 : cs.length = 2 := hl.trans (by kernel_rfl)
  have hx : xs.length = 2 := hlen
  obtain ⟨c0, c1, rfl⟩ : ∃ c0 c1, cs = [c0, c1] := by
    match cs, hl2 with
    | [c0, c1], _ => exact ⟨_, _, rfl⟩
  have co3 : Try.prog.cellsOf 3 = 1 := by kernel_rfl
  have e0 : DataW.trod enc Try.prog w base sp held n 3 (([c0, c1].drop 0).take (Try.prog.cellsOf 3)) = xs[0]? := hf 0 _ rfl
  rw [co3] at e0
  obtain ⟨_, x0, r0, w0⟩ := (Opens.int (by kernel_rfl)) _ _ _ _ _ _ _ (e0.trans (List.getElem?_eq_getElem (by omega)))
  have e1 : DataW.trod enc Try.prog w base sp held n 3 (([c0, c1].drop 1).take (Try.prog.cellsOf 3)) = xs[1]? := hf 1 _ rfl
  rw [co3] at e1
  obtain ⟨_, x1, r1, w1⟩ := (Opens.int (by kernel_rfl)) _ _ _ _ _ _ _ (e1.trans (List.getElem?_eq_getElem (by omega)))
  have q0 : [c0] = [_] := r0
  cases q0
  have q1 : [c1] = [_] := r1
  cases q1
  exact ⟨rfl, ⟨x0, x1⟩, rfl, w0, w1⟩
end Go.Proofs.Ytflhjlgimihmgaa
end
section
namespace Go.Proofs.Ytflhjlgimihmgaa
open Go Go.RowKit Go.Dec
theorem works_ok : F_law03_works 2000000 = some true := by kernel_rfl
theorem W_Lap.np {s : Lap} (h : W_Lap s) : s.Panels.length ≤ 9223372036854775807 := h.2.2.2.2.2
theorem ans_ok {m : Int} (h : 0 ≤ m) : ans m = (m, 0) := by unfold ans; rw [if_neg (by omega)]
theorem ans_no {m : Int} (h : m = -1) : ans m = (0, 3) := by subst h; rfl
theorem isKnown_ans {n : Nat} (m : Int) : F_law03_isKnown n (ans m).2 = some true := by
  unfold ans F_law03_isKnown
  split <;> rfl
theorem p_atLeast {n : Nat} (hn : 2000000 ≤ n) {a b : Lap} (ha : VL a) (hb : VL b) (hl : a.Length ≤ b.Length) (h1 : ∀ k, 0 ≤ k → Has a (allB a) k → Has b (allB b) k) (h2 : ∀ k, 0 ≤ k → Has a (sureB a) k → Has b (sureB b) k) : F_law03_atLeast n a b = some true := by
  obtain ⟨m1, l1, e1, _, q1⟩ := p_Least hn ha
  obtain ⟨m2, l2, e2, _, q2⟩ := p_Least hn hb
  obtain ⟨m3, l3, e3, q3⟩ := p_Hopes hn ha
  obtain ⟨m4, l4, e4, q4⟩ := p_Hopes hn hb
  rw [F_law03_atLeast, e1, e2, e3, e4]
  simp only [Option.bind_some, isKnown_ans, Bool.not_true, Bool.false_eq_true, if_false]
  have c : ∀ {m m' : Int}, (0 ≤ m ∨ m = -1) → (0 ≤ m → 0 ≤ m' ∧ m' ≤ m) → (((ans m).2 != 0) || (((ans m').2 == 0) && decide ((ans m').1 ≤ (ans m).1))) = true := fun {m m'} h0 h => by
    rcases h0 with h0 | h0
    · obtain ⟨k1, k2⟩ := h h0
      rw [ans_ok h0, ans_ok k1, decide_eq_true k2]; rfl
    · rw [ans_no h0]; rfl
  rw [c q1.m_eq (LeastIs.le hl h1 q1 q2), c q3.m_eq (LeastIs.le hl h2 q3 q4)]
  rfl
theorem allB_iff {s : Lap} {r c : Int} : allB s r c ↔ (⟨r, c⟩ : Cell) ∈ s.Faults ∨ (⟨r, c⟩ : Cell) ∈ s.Flaws := by
  constructor
  · rintro ⟨l, hl, hc⟩
    simp only [List.mem_cons, List.not_mem_nil, or_false] at hl
    rcases hl with rfl | rfl
    · exact .inl hc
    · exact .inr hc
  · rintro (h | h)
    · exact ⟨_, by simp, h⟩
    · exact ⟨s.Flaws, by simp, h⟩
theorem sureB_iff {s : Lap} {r c : Int} : sureB s r c ↔ (⟨r, c⟩ : Cell) ∈ s.Faults := by
  constructor
  · rintro ⟨l, hl, hc⟩
    simp only [List.mem_cons, List.not_mem_nil, or_false] at hl
    subst hl; exact hc
  · intro h; exact ⟨_, by simp, h⟩
theorem AreC.sub {s : Lap} {l l' o o' : List Cell} (h : AreC s l o) (hl : l'.Sublist l) (ho : ∀ c ∈ o', c ∈ o) : AreC s l' o' := ⟨fun c hc => ⟨(h.1 c (hl.subset hc)).1, fun h' => (h.1 c (hl.subset hc)).2 (ho c h')⟩, h.2.1.sublist hl, Nat.le_trans hl.length_le h.2.2⟩
end Go.Proofs.Ytflhjlgimihmgaa
end
section
namespace Go.Proofs.Ytflhjlgimihmgaa
open Go Go.RowKit Go.Dec
theorem nodup_le {α : Type} : ∀ {l m : List α}, l.Nodup → (∀ x ∈ l, x ∈ m) → l.length ≤ m.length
  | [], _, _, _ => Nat.zero_le _
  | x :: l, m, hl, h => by
    obtain ⟨s, t, rfl⟩ := List.append_of_mem (h x List.mem_cons_self)
    obtain ⟨h1, h2⟩ := List.nodup_cons.1 hl
    have := nodup_le (m := s ++ t) h2 fun y hy => by
      have := h y (List.mem_cons_of_mem _ hy)
      simp only [List.mem_append, List.mem_cons] at this ⊢
      rcases this with h' | rfl | h'
      · exact .inl h'
      · exact absurd hy h1
      · exact .inr h'
    simp only [List.length_append, List.length_cons] at this ⊢
    omega
theorem nodup_map {α β : Type} {f : α → β} {l : List α} (hf : ∀ x y, f x = f y → x = y) (h : l.Nodup) : (l.map f).Nodup := List.pairwise_map.2 (h.imp fun hne e => hne (hf _ _ e))
theorem span_nodup (a b : Int) : (span a b).Nodup := by
  unfold span
  refine nodup_map (fun x y h => ?_) List.nodup_range
  omega
/-- the cells of some rows, from a place on -/
def cellsL (col : Int) : Int → List Span → List Cell
  | _, [] => []
  | r, s :: l => (span s.Low s.High).map (fun c => (⟨r, col + c⟩ : Cell)) ++ cellsL col (r + 1) l
theorem cellsL_mem {col : Int} {c : Cell} : ∀ {rs : List Span} {r : Int}, c ∈ cellsL col r rs ↔ ∃ (k : Nat) (s : Span), rs[k]? = some s ∧ c.Row = r + k ∧ col + s.Low ≤ c.Col ∧ c.Col ≤ col + s.High
  | [], r => by simp [cellsL]
  | s :: l, r => by
    rw [cellsL, List.mem_append, cellsL_mem, List.mem_map]
    constructor
    · rintro (⟨x, hx, rfl⟩ | ⟨k, s', h1, h2, h3⟩)
      · have := span_mem'.1 hx
        exact ⟨0, s, rfl, by simp, by simp only; omega, by simp only; omega⟩
      · exact ⟨k + 1, s', h1, by omega, h3⟩
    · rintro ⟨k, s', h1, h2, h3, h4⟩
      cases k with
      | zero =>
        simp only [List.getElem?_cons_zero, Option.some.injEq] at h1
        subst h1
        exact .inl ⟨c.Col - col, span_mem'.2 ⟨by omega, by omega⟩, cell_ext (by simp only; omega) (by simp only; omega)⟩
      | succ k =>
        exact .inr ⟨k, s', by simpa using h1, by omega, h3, h4⟩
theorem cellsL_nodup {col : Int} : ∀ (rs : List Span) (r : Int), (cellsL col r rs).Nodup
  | [], _ => List.nodup_nil
  | s :: l, r => by
    rw [cellsL]
    refine List.nodup_append.2 ⟨nodup_map (fun x y h => by have := congrArg Cell.Col h; simp only at this; omega) (span_nodup _ _), cellsL_nodup l _, fun x hx y hy e => ?_⟩
    subst e
    obtain ⟨c, _, rfl⟩ := List.mem_map.1 hx
    obtain ⟨k, _, _, h, _⟩ := cellsL_mem.1 hy
    simp only at h; omega
theorem cov_cells {rs : List Span} {pl : Place} {r c : Int} : cov rs pl r c ↔ (⟨r, c⟩ : Cell) ∈ cellsL pl.Col pl.Row rs := (cellsL_mem (c := ⟨r, c⟩)).symm
/-- how many cells a list of rows has -/
def areaR : List Span → Nat
  | [] => 0
  | s :: l => (s.High + 1 - s.Low).toNat + areaR l
theorem cellsL_len (col : Int) : ∀ (rs : List Span) (r : Int), (cellsL col r rs).length = areaR rs
  | [], _ => rfl
  | s :: l, r => by rw [cellsL, List.length_append, List.length_map, span_len, cellsL_len col l, areaR]
theorem areaR_app : ∀ (l m : List Span), areaR (l ++ m) = areaR l + areaR m
  | [], m => by simp [areaR]
  | s :: l, m => by rw [List.cons_append, areaR, areaR, areaR_app l m]; omega
theorem areaR_turn (p : Panel) (t : Int) : areaR (rowsT p t) = areaR p.Rows := by
  unfold rowsT
  split
  · rfl
  · have : ∀ l : List Span, areaR (l.reverse.map fun s => (⟨wide p - s.High, wide p - s.Low⟩ : Span)) = areaR l := by
      intro l
      induction l with
      | nil => rfl
      | cons a l ih =>
        rw [List.reverse_cons, List.map_append, areaR_app, ih, areaR]
        simp only [List.map_cons, List.map_nil, areaR]
        have : (wide p - a.Low + 1 - (wide p - a.High)).toNat = (a.High + 1 - a.Low).toNat := by congr 1; omega
        omega
    exact this p.Rows
def areaP (ps : List Panel) : Nat := (ps.map fun p => areaR p.Rows).sum
/-- the grid of n rows -/
def grid (n W : Nat) : List Cell := (List.range n).flatMap fun (r : Nat) => (List.range W).map fun (c : Nat) => (⟨(r : Int), (c : Int)⟩ : Cell)
theorem grid_len (n W : Nat) : (grid n W).length = n * W := by
  unfold grid
  rw [List.length_flatMap]
  simp only [List.length_map, List.length_range]
  induction n with
  | zero => simp
  | succ n ih => rw [List.range_succ, List.map_append, List.sum_append, ih]; simp [Nat.succ_mul]
theorem grid_mem {n W : Nat} {c : Cell} : c ∈ grid n W ↔ (0 ≤ c.Row ∧ c.Row < n) ∧ 0 ≤ c.Col ∧ c.Col < W := by
  unfold grid
  simp only [List.mem_flatMap, List.mem_map, List.mem_range]
  constructor
  · rintro ⟨r, hr, x, hx, rfl⟩
    exact ⟨⟨by simp only; omega, by simp only; omega⟩, by simp only; omega, by simp only; omega⟩
  · rintro ⟨⟨h1, h2⟩, h3, h4⟩
    exact ⟨c.Row.toNat, by omega, c.Col.toNat, by omega, cell_ext (by simp only; omega) (by simp only; omega)⟩
/-- panels beside some cells need room -/
theorem LayIn.count {W n : Nat} : ∀ {ps : List Panel} {pls : List Place} {bad : Int → Int → Prop} (B : List Cell), (∀ p ∈ ps, VPn p) → LayIn (W : Int) (n : Int) bad ps pls → B.Nodup → (∀ c ∈ B, bad c.Row c.Col ∧ c ∈ grid n W) → areaP ps + B.length ≤ n * W
  | [], [], bad, B, _, _, hB, h => by
    have := nodup_le hB fun c hc => (h c hc).2
    rw [grid_len] at this
    simpa [areaP] using this
  | p :: ps, pl :: pls, bad, B, hp, ⟨h1, h2, h3⟩, hB, h => by
    have hv := hp p List.mem_cons_self
    have hR := hv.turn pl.Turned
    have hin : ∀ c ∈ cellsL pl.Col pl.Row (rowsT p pl.Turned), c ∈ grid n W ∧ ¬ bad c.Row c.Col := fun c hc => by
      have hcov : cov (rowsT p pl.Turned) pl c.Row c.Col := cov_cells.2 hc
      obtain ⟨k1, k2, k3⟩ := h2 _ _ hcov
      obtain ⟨k, s, g1, g2, g3, g4⟩ := hcov
      have := hR.r s (List.mem_of_getElem? g1)
      have := h1.1; have := h1.2.1
      exact ⟨grid_mem.2 ⟨⟨by omega, k1⟩, by omega, k2⟩, k3⟩
    have := h3.count (cellsL pl.Col pl.Row (rowsT p pl.Turned) ++ B) (fun q hq => hp q (List.mem_cons_of_mem _ hq)) (List.nodup_append.2 ⟨cellsL_nodup _ _, hB, fun x hx y hy e => by
      subst e; exact (hin x hx).2 (h x hy).1⟩) (fun c hc => by
      rcases List.mem_append.1 hc with hc | hc
      · exact ⟨.inr (cov_cells.2 hc), (hin c hc).1⟩
      · exact ⟨.inl (h c hc).1, (h c hc).2⟩)
    rw [List.length_append, cellsL_len, areaR_turn] at this
    simp only [areaP, List.map_cons, List.sum_cons] at this ⊢
    omega
section
variable {n : Nat}
theorem p_TurnedRows (hn : 1000000 ≤ n) {p : Panel} (h : VPn p) : F_ref03_TurnedRows n p = some (rowsT p 1) := by
  rw [F_ref03_TurnedRows]
  have hl := h.n
  have h1 := (loop_fold (step := F_ref03_TurnedRows_s1 n p) p.Rows (fun i (z : Int) => (z, (i : Int))) (fun z s => max z s.High) (fun z => z) (fun _ _ => True) (n := n) 0 trivial (fun i x z hx _ => by
    have hi := (List.getElem?_eq_some_iff.1 hx).1
    refine ⟨?_, trivial⟩
    rw [F_ref03_TurnedRows_s1, dlt, decide_eq_true hi, geti_nat, hx]
    simp only [if_true, Option.bind_some, w64_nat (show i ≤ 4611686018427387904 by omega)]) (fun z _ => by rw [F_ref03_TurnedRows_s1, dlt]; simp) (by omega)).1
  rw [show ((0 : Int), (0 : Int)) = ((0 : Int), ((0 : Nat) : Int)) from rfl, h1]
  simp only [Option.bind_some]
  rw [show p.Rows.foldl (fun z s => max z s.High) 0 = wide p from rfl]
  obtain ⟨⟨w0, w7⟩, hw, _⟩ := h.wide
  have key : ∀ (k : Nat) (s : List Span) (n' : Nat), k ≤ p.Rows.length → s.length + k = p.Rows.length → k < n' → loopO n' (F_ref03_TurnedRows_s2 n p (wide p)) ((k : Int) - 1, s) = some (s ++ (p.Rows.take k).reverse.map fun s => (⟨wide p - s.High, wide p - s.Low⟩ : Span)) := by
    intro k
    induction k with
    | zero =>
      intro s n' _ _ hn'
      refine loop_done ?_ hn'
      rw [F_ref03_TurnedRows_s2]; simp
    | succ k ih =>
      intro s n' hk hs hn'
      obtain ⟨m, rfl⟩ : ∃ k, n' = k + 1 := ⟨n' - 1, by omega⟩
      have hlt : k < p.Rows.length := by omega
      have hx' := h.r p.Rows[k] (List.getElem_mem hlt)
      have hw' := hw p.Rows[k] (List.getElem_mem hlt)
      have e0 : ((k + 1 : Nat) : Int) - 1 = (k : Int) := by omega
      rw [loopO_succ, e0, F_ref03_TurnedRows_s2, if_pos (by simp), geti_nat, List.getElem?_eq_getElem hlt]
      simp only [Option.bind_some]
      rw [w64_id (by omega) (by omega), w64_id (by omega) (by omega), w64_id (show -9223372036854775808 ≤ (k : Int) - 1 by omega) (by omega), lim_ok (by rw [List.length_append]; simp; omega)]
      simp only [Option.bind_some]
      rw [ih _ m (by omega) (by rw [List.length_append]; simp; omega) (by omega), List.take_succ_eq_append_getElem hlt]
      simp only [List.reverse_append, List.reverse_cons, List.reverse_nil, List.nil_append, List.cons_append, List.map_cons, List.append_assoc]
  rw [w64_id (by omega) (by omega), key p.Rows.length [] n (Nat.le_refl _) (by simp) (by omega), List.take_length]
  simp only [Option.bind_some, List.nil_append, rowsT]
  rw [if_neg (by decide)]
theorem PlOK.zero : PlOK ⟨0, 0, 0⟩ := ⟨Int.le_refl _, Int.le_refl _, .inl rfl⟩
end
end Go.Proofs.Ytflhjlgimihmgaa
end
section
namespace Go.Proofs.Ytflhjlgimihmgaa
open Go Go.RowKit Go.Dec
theorem LayIn.perm {W n : Int} {ps ps' : List Panel} (h : ps.Perm ps') : ∀ {bad : Int → Int → Prop} {pls : List Place}, LayIn W n bad ps pls → ∃ pls', LayIn W n bad ps' pls' := by
  induction h with
  | nil => intro bad pls h; exact ⟨pls, h⟩
  | cons p _ ih =>
    intro bad pls h
    cases pls with
    | nil => exact h.elim
    | cons pl pls =>
      obtain ⟨h1, h2, h3⟩ := h
      obtain ⟨pls', h4⟩ := ih h3
      exact ⟨pl :: pls', h1, h2, h4⟩
  | swap p q l =>
    intro bad pls h
    match pls, h with
    | a :: b :: pls, ⟨a1, a2, b1, b2, h3⟩ =>
      refine ⟨b :: a :: pls, b1, fun r c hc => ⟨(b2 r c hc).1, (b2 r c hc).2.1, fun hb => (b2 r c hc).2.2 (.inl hb)⟩, a1, fun r c hc => ⟨(a2 r c hc).1, (a2 r c hc).2.1, fun hb => ?_⟩, h3.mono (Int.le_refl _) fun r c hb => ?_⟩
      · rcases hb with hb | hb
        · exact (a2 r c hc).2.2 hb
        · exact (b2 r c hb).2.2 (.inr hc)
      · rcases hb with (hb | hb) | hb
        · exact .inl (.inl hb)
        · exact .inr hb
        · exact .inl (.inr hb)
  | trans _ _ ih1 ih2 =>
    intro bad pls h
    obtain ⟨pls', h'⟩ := ih1 h
    exact ih2 h'
def Im (φ : Int → Int) (W n : Int) (p p' : Panel) : Prop := ∀ (pl : Place) (bad : Int → Int → Prop), PlOK pl → Fits W n bad (rowsT p pl.Turned) pl →
  ∃ pl', PlOK pl' ∧ Fits W n (fun r c => bad r (φ c)) (rowsT p' pl'.Turned) pl' ∧ ∀ r c, cov (rowsT p' pl'.Turned) pl' r c ↔ cov (rowsT p pl.Turned) pl r (φ c)
theorem LayIn.image {φ : Int → Int} {W n : Int} : ∀ {ps ps' : List Panel} {pls : List Place} {bad : Int → Int → Prop}, ps.length = ps'.length → (∀ (i : Nat) (p p' : Panel), ps[i]? = some p → ps'[i]? = some p' → Im φ W n p p') → LayIn W n bad ps pls → ∃ pls', LayIn W n (fun r c => bad r (φ c)) ps' pls'
  | [], [], [], _, _, _, _ => ⟨[], trivial⟩
  | [], _ :: _, _, _, h, _, _ => by simp at h
  | _ :: _, [], _, _, h, _, _ => by simp at h
  | p :: ps, p' :: ps', pl :: pls, bad, hl, hi, ⟨h1, h2, h3⟩ => by
    obtain ⟨pl', k1, k2, k3⟩ := hi 0 p p' rfl rfl pl bad h1 h2
    obtain ⟨pls', h4⟩ := LayIn.image (ps := ps) (ps' := ps') (by simpa using hl) (fun i q q' a1 a2 => hi (i + 1) q q' (by simpa using a1) (by simpa using a2)) h3
    exact ⟨pl' :: pls', k1, k2, h4.mono (Int.le_refl _) fun r c hb => hb.imp id (k3 r c).1⟩
theorem Im.refl {W n : Int} (p : Panel) : Im (fun c => c) W n p p := fun pl _ h1 h2 => ⟨pl, h1, h2, fun _ _ => Iff.rfl⟩
def turned (p : Panel) : Panel := ⟨rowsT p 1⟩
theorem wide_of {p : Panel} {w : Int} (h0 : 0 ≤ w) (h : ∀ s ∈ p.Rows, s.High ≤ w) (hs : ∃ s ∈ p.Rows, s.High = w) : wide p = w := by
  obtain ⟨h1, h2, h3⟩ := wide_foldl p.Rows 0
  obtain ⟨s, hs, e⟩ := hs
  have k1 := h2 s hs
  rcases h3 with e3 | ⟨s', hs', e'⟩
  · show p.Rows.foldl (fun w s => max w s.High) 0 = w; omega
  · have := h s' hs'
    show p.Rows.foldl (fun w s => max w s.High) 0 = w; omega
theorem rowsT_one (p : Panel) : rowsT p 1 = p.Rows.reverse.map fun s => (⟨wide p - s.High, wide p - s.Low⟩ : Span) := by unfold rowsT; rw [if_neg (by decide)]
theorem wide_turned {p : Panel} (h : VPn p) : wide (turned p) = wide p := by
  obtain ⟨⟨w0, w7⟩, hw, _⟩ := h.wide
  refine wide_of w0 (fun s hs => ?_) ?_
  · rw [turned, rowsT_one] at hs
    obtain ⟨s', hs', rfl⟩ := List.mem_map.1 hs
    have := h.r s' (List.mem_reverse.1 hs')
    simp only; omega
  · obtain ⟨s, hs, e⟩ := h.z
    exact ⟨⟨wide p - s.High, wide p - s.Low⟩, by rw [turned, rowsT_one]; exact List.mem_map.2 ⟨s, List.mem_reverse.2 hs, rfl⟩, by simp only; omega⟩
theorem turned_turned {p : Panel} (h : VPn p) : rowsT (turned p) 1 = p.Rows := by
  rw [rowsT_one, wide_turned h]
  unfold turned
  rw [rowsT_one, ← List.map_reverse, List.reverse_reverse, List.map_map]
  have : (fun s : Span => (⟨wide p - s.High, wide p - s.Low⟩ : Span)) ∘ (fun s : Span => (⟨wide p - s.High, wide p - s.Low⟩ : Span)) = id := by
    funext s
    obtain ⟨a, b⟩ := s
    simp only [Function.comp, id, Span.mk.injEq]
    omega
  rw [this, List.map_id]
theorem Im.half {W n : Int} {p : Panel} (h : VPn p) : Im (fun c => c) W n p (turned p) ∧ Im (fun c => c) W n (turned p) p := by
  have e0 : rowsT (turned p) 0 = rowsT p 1 := rfl
  have e1 : rowsT (turned p) 1 = rowsT p 0 := turned_turned h
  constructor
  · rintro pl bad ⟨h0, h1, h2⟩ hf
    rcases h2 with h2 | h2
    · rw [h2] at hf ⊢
      exact ⟨⟨pl.Row, pl.Col, 1⟩, ⟨h0, h1, .inr rfl⟩, by simp only [e1]; exact hf, fun r c => by simp only [e1]; exact Iff.rfl⟩
    · rw [h2] at hf ⊢
      exact ⟨⟨pl.Row, pl.Col, 0⟩, ⟨h0, h1, .inl rfl⟩, by simp only [e0]; exact hf, fun r c => by simp only [e0]; exact Iff.rfl⟩
  · rintro pl bad ⟨h0, h1, h2⟩ hf
    rcases h2 with h2 | h2
    · rw [h2, e0] at hf
      rw [h2, e0]
      exact ⟨⟨pl.Row, pl.Col, 1⟩, ⟨h0, h1, .inr rfl⟩, hf, fun r c => Iff.rfl⟩
    · rw [h2, e1] at hf
      rw [h2, e1]
      exact ⟨⟨pl.Row, pl.Col, 0⟩, ⟨h0, h1, .inl rfl⟩, hf, fun r c => Iff.rfl⟩
def flip (w : Int) (s : Span) : Span := ⟨w - s.High, w - s.Low⟩
def mirP (p : Panel) : Panel := ⟨p.Rows.map (flip (wide p))⟩
theorem mirP_rows (p : Panel) : (rowsT p 1).reverse = (mirP p).Rows := by
  rw [rowsT_one, ← List.map_reverse, List.reverse_reverse]; rfl
theorem flip_flip (w : Int) (s : Span) : flip w (flip w s) = s := by
  obtain ⟨a, b⟩ := s
  simp only [flip, Span.mk.injEq]
  omega
theorem wide_mir {p : Panel} (h : VPn p) : wide (mirP p) = wide p := by
  obtain ⟨⟨w0, w7⟩, hw, _⟩ := h.wide
  refine wide_of w0 (fun s hs => ?_) ?_
  · obtain ⟨s', hs', rfl⟩ := List.mem_map.1 hs
    have := h.r s' hs'
    simp only [flip]; omega
  · obtain ⟨s, hs, e⟩ := h.z
    exact ⟨_, List.mem_map.2 ⟨s, hs, rfl⟩, by simp only [flip]; omega⟩
theorem VPn.mir {p : Panel} (h : VPn p) : VPn (mirP p) := by
  obtain ⟨⟨w0, w7⟩, hw, s1, hs1, e1⟩ := h.wide
  refine ⟨by simpa [mirP] using h.n, fun s hs => ?_, ⟨_, List.mem_map.2 ⟨s1, hs1, rfl⟩, by simp only [flip]; omega⟩⟩
  obtain ⟨s', hs', rfl⟩ := List.mem_map.1 hs
  have := h.r s' hs'
  have := hw s' hs'
  simp only [flip]
  exact ⟨by omega, by omega, by omega⟩
theorem mir_mir {p : Panel} (h : VPn p) : mirP (mirP p) = p := by
  unfold mirP
  rw [show wide ⟨p.Rows.map (flip (wide p))⟩ = wide p from wide_mir h]
  simp only [List.map_map]
  have : (flip (wide p)) ∘ (flip (wide p)) = id := by funext s; exact flip_flip _ s
  rw [this, List.map_id]
theorem rowsT_mir {p : Panel} (h : VPn p) (t : Int) : rowsT (mirP p) t = (rowsT p t).map (flip (wide p)) := by
  unfold rowsT
  rw [wide_mir h]
  split
  · rfl
  · unfold mirP
    simp only [← List.map_reverse, List.map_map]
    rfl
/-- the last column of a panel is laid somewhere -/
theorem cov_wide {p : Panel} (h : VPn p) (pl : Place) : ∃ r, cov (rowsT p pl.Turned) pl r (pl.Col + wide p) := by
  obtain ⟨⟨w0, w7⟩, hw, s1, hs1, e1⟩ := h.wide
  have : ∃ s ∈ rowsT p pl.Turned, s.High = wide p ∧ s.Low ≤ s.High := by
    unfold rowsT
    split
    · have := h.r s1 hs1
      exact ⟨s1, hs1, e1, this.2.1⟩
    · obtain ⟨s, hs, e⟩ := h.z
      have := hw s hs
      have := h.r s hs
      exact ⟨_, List.mem_map.2 ⟨s, List.mem_reverse.2 hs, rfl⟩, by simp only; omega, by simp only; omega⟩
  obtain ⟨s, hs, e, hle⟩ := this
  obtain ⟨k, hk⟩ := List.mem_iff_getElem?.1 hs
  exact ⟨pl.Row + k, k, s, hk, rfl, by omega, by omega⟩
theorem Im.mir {W n : Int} {p : Panel} (h : VPn p) : Im (fun c => W - 1 - c) W n p (mirP p) := by
  rintro pl bad ⟨h0, h1, h2⟩ hf
  obtain ⟨r0, hr0⟩ := cov_wide h pl
  have hW := (hf _ _ hr0).2.1
  have hR := (h.turn pl.Turned).r
  simp only at hR
  have key : ∀ r c, cov (rowsT (mirP p) pl.Turned) ⟨pl.Row, W - 1 - pl.Col - wide p, pl.Turned⟩ r c ↔ cov (rowsT p pl.Turned) pl r (W - 1 - c) := fun r c => by
    rw [rowsT_mir h]
    constructor
    · rintro ⟨k, s, k1, k2, k3, k4⟩
      rw [List.getElem?_map] at k1
      obtain ⟨s', hs', rfl⟩ := Option.map_eq_some_iff.1 k1
      simp only [flip] at k2 k3 k4
      exact ⟨k, s', hs', k2, by omega, by omega⟩
    · rintro ⟨k, s, k1, k2, k3, k4⟩
      exact ⟨k, flip (wide p) s, by rw [List.getElem?_map, k1]; rfl, k2, by simp only [flip]; omega, by simp only [flip]; omega⟩
  refine ⟨⟨pl.Row, W - 1 - pl.Col - wide p, pl.Turned⟩, ⟨h0, by simp only; omega, h2⟩, fun r c hc => ?_, key⟩
  have hc' := (key r c).1 hc
  obtain ⟨g1, g2, g3⟩ := hf _ _ hc'
  obtain ⟨k, s, k1, k2, k3, k4⟩ := hc'
  have := hR s (List.mem_of_getElem? k1)
  exact ⟨g1, by omega, g3⟩
def rot {α : Type} (k : Nat) (l : List α) : List α := l.drop k ++ l.take k
theorem rot_perm {α : Type} (k : Nat) (l : List α) : (rot k l).Perm l := by
  have := (List.perm_append_comm (l₁ := l.drop k) (l₂ := l.take k))
  rw [List.take_append_drop] at this
  exact this
theorem rot_at {α : Type} {k : Nat} {l : List α} (hk : k < l.length) {j : Nat} (hj : j < l.length) : (rot k l)[j]? = l[(j + k) % l.length]? := by
  unfold rot
  by_cases h : j < l.length - k
  · rw [List.getElem?_append_left (by rw [List.length_drop]; exact h), List.getElem?_drop, Nat.mod_eq_of_lt (by omega), Nat.add_comm]
  · rw [List.getElem?_append_right (by rw [List.length_drop]; omega), List.length_drop, List.getElem?_take, if_pos (by omega)]
    congr 1
    have e : j + k = (j - (l.length - k)) + l.length := by omega
    rw [e, Nat.add_mod_right, Nat.mod_eq_of_lt (by omega)]
/-- the loop that turns a list -/
theorem rot_loop {α : Type} {step : Int × List α → Option ((Int × List α) ⊕ List α)} (l : List α) (by_ : Int) (h0 : 0 ≤ by_ ∧ by_ ≤ 100) (hl : l.length ≤ 1000) {n : Nat} (hn : 1000000 ≤ n)
    (hs : ∀ (i : Int) (out : List α), step (i, out) = if decide (i < (l.length : Int)) = true then ((nz (l.length : Int)).bind fun _ => (geti l ((w64 (i + by_)).tmod (l.length : Int))).bind fun y => (geti out i).bind fun _ => some (Sum.inl (w64 (i + 1), setx out i y))) else (some (Sum.inr out))) :
    ∃ out, loopO n step (0, l) = some out ∧ out.Perm l := by
  by_cases hz : l.length = 0
  · refine ⟨l, ?_, List.Perm.refl _⟩
    refine loop_done ?_ (by omega)
    rw [hs, hz]; simp
  · obtain ⟨B, hB⟩ : ∃ B : Nat, by_ = B := ⟨by_.toNat, by omega⟩
    obtain ⟨out, ho, hp⟩ := loop_nats (step := step) l.length (fun i (z : List α) => ((i : Int), z)) (fun i z => z.length = l.length ∧ ∀ j, j < i → z[j]? = l[(j + B) % l.length]?)
      (fun z => z = rot (B % l.length) l) (n := n) l ⟨rfl, fun j h => by omega⟩ (fun i z hi hz' => .inl (by
        obtain ⟨hzl, hall⟩ := hz'
        have hnz : nz (l.length : Int) = some () := by unfold nz; rw [if_neg (by omega)]
        have hmod : (i + B) % l.length < l.length := Nat.mod_lt _ (by omega)
        have e1 : (w64 ((i : Int) + by_)).tmod (l.length : Int) = (((i + B) % l.length : Nat) : Int) := by
          rw [hB, w64_id (by omega) (by omega)]
          rw [Int.tmod_eq_emod_of_nonneg (by omega)]
          push_cast
          rfl
        rw [hs, dlt, decide_eq_true hi, hnz, e1]
        simp only [if_true, Option.bind_some]
        rw [geti_nat, List.getElem?_eq_getElem hmod, geti_nat, List.getElem?_eq_getElem (show i < z.length by omega)]
        simp only [Option.bind_some, w64_nat (show i ≤ 4611686018427387904 by omega)]
        refine ⟨_, rfl, by rw [setx_len]; exact hzl, fun j hj => ?_⟩
        unfold setx
        rw [Int.toNat_natCast, List.getElem?_set]
        by_cases e : i = j
        · subst e
          rw [if_pos rfl, if_pos (by omega), List.getElem?_eq_getElem hmod]
        · rw [if_neg e]; exact hall j (by omega))) (fun z hz' => ⟨z, by rw [hs, dlt]; simp, by
        have hm : B % l.length < l.length := Nat.mod_lt _ (by omega)
        refine List.ext_getElem? fun j => ?_
        by_cases hj : j < l.length
        · rw [hz'.2 j hj, rot_at hm hj, Nat.add_mod_mod]
        · rw [List.getElem?_eq_none (by omega), List.getElem?_eq_none (by rw [(rot_perm _ l).length_eq]; omega)]⟩) (by omega)
    exact ⟨out, ho, by rw [hp]; exact rot_perm _ _⟩
end Go.Proofs.Ytflhjlgimihmgaa
end
