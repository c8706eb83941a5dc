/-
  A part of the proof of LProof: the texts Lad, EngN, Opn, Lae, Laf, Lah, GLaysProof, LawProof.
-/
import Derived.Test.YtflhjlgimihmgaaJLProof6
import Derived.OpenShut
section
namespace Go.Proofs.Ytflhjlgimihmgaa
open Go Go.RowKit Go.Dec
/-- panels laid, one beside the other, in the first n rows, none on what is bad -/
def LayIn (W n : Int) : (Int → Int → Prop) → List Panel → List Place → Prop
  | _, [], [] => True
  | bad, p :: ps, pl :: pls => PlOK pl ∧ Fits W n bad (rowsT p pl.Turned) pl ∧ LayIn W n (fun r c => bad r c ∨ cov (rowsT p pl.Turned) pl r c) ps pls
  | _, _, _ => False
theorem LayIn.mono {W n n' : Int} (hn : n ≤ n') : ∀ {ps : List Panel} {pls : List Place} {bad bad' : Int → Int → Prop}, (∀ r c, bad' r c → bad r c) → LayIn W n bad ps pls → LayIn W n' bad' ps pls
  | [], [], _, _, _, _ => trivial
  | p :: ps, pl :: pls, _, _, hb, ⟨h1, h2, h3⟩ => ⟨h1, fun r c hc => ⟨by have := (h2 r c hc).1; omega, (h2 r c hc).2.1, fun h => (h2 r c hc).2.2 (hb r c h)⟩, h3.mono hn fun r c h => h.imp (hb r c) id⟩
theorem LayIn.len {W n : Int} : ∀ {ps : List Panel} {pls : List Place} {bad : Int → Int → Prop}, LayIn W n bad ps pls → pls.length = ps.length
  | [], [], _, _ => rfl
  | _ :: ps, _ :: pls, _, ⟨_, _, h⟩ => by simp [h.len]
/-- there is a lay in the first n rows -/
def Has (s : Lap) (bad : Int → Int → Prop) (n : Int) : Prop := ∃ pls, LayIn s.Width n bad s.Panels pls
theorem Has.mono {s : Lap} {bad bad' : Int → Int → Prop} {n n' : Int} (hn : n ≤ n') (hb : ∀ r c, bad' r c → bad r c) (h : Has s bad n) : Has s bad' n' := let ⟨pls, h⟩ := h; ⟨pls, h.mono hn hb⟩
/-- the least number of rows, with a lay -/
def LeastIs (s : Lap) (bad : Int → Int → Prop) (m : Int) (lay : List Place) : Prop :=
  ((0 ≤ m ∧ m ≤ s.Length) ∧ LayIn s.Width m bad s.Panels lay ∧ ∀ k, 0 ≤ k → k < m → ¬ Has s bad k) ∨ (m = -1 ∧ lay = [] ∧ ∀ k, 0 ≤ k → k ≤ s.Length → ¬ Has s bad k)
theorem first_in {W m : Int} {bad : Int → Int → Prop} {rs : List Span} {pl : Place} (hR : VPn ⟨rs⟩) (h : Fits W m bad rs pl) : pl.Row < m ∧ pl.Col < W := by
  obtain ⟨hn, hr, s, hs, h0⟩ := hR
  simp only at hn hr hs
  obtain ⟨k, hk⟩ := List.mem_iff_getElem?.1 hs
  have hs' := hr s hs
  have h1 := h (pl.Row + k) pl.Col ⟨k, s, hk, rfl, by omega, by omega⟩
  exact ⟨by omega, h1.2.1⟩
section
variable {n : Nat}
theorem p_fill {c : Lap} (hv : VL c) {m : Int} (hm : 0 ≤ m ∧ m ≤ 12) : ∀ (d n : Nat), 1000001 + d ≤ n → ∀ (tk : List Int) (lay : List Place), TK tk → lay.length + d = c.Panels.length →
    ∃ y, F_lays_cloth_fill n c m tk lay = some y ∧ ((y.1 = true ∧ ∃ pls, y.2.2 = lay ++ pls ∧ LayIn c.Width m (badT tk) (c.Panels.drop lay.length) pls) ∨ (y.1 = false ∧ ¬ ∃ pls, LayIn c.Width m (badT tk) (c.Panels.drop lay.length) pls)) := by
  have hW := hv.w
  have hnp := hv.np
  intro d
  induction d with
  | zero =>
    intro n hn tk lay hT hd
    obtain ⟨n, rfl⟩ : ∃ k, n = k + 1 := ⟨n - 1, by omega⟩
    rw [F_lays_cloth_fill]
    dsimp only
    rw [if_pos (by simp; omega)]
    exact ⟨_, rfl, .inl ⟨rfl, [], by simp, by rw [List.drop_of_length_le (by omega)]; trivial⟩⟩
  | succ d ih =>
    intro n hn tk lay hT hd
    obtain ⟨n, rfl⟩ : ∃ k, n = k + 1 := ⟨n - 1, by omega⟩
    rw [F_lays_cloth_fill]
    dsimp only
    rw [if_neg (by simp; omega)]
    have hlt : lay.length < c.Panels.length := by omega
    obtain ⟨p, hp⟩ : ∃ p, c.Panels[lay.length]? = some p := ⟨_, List.getElem?_eq_getElem hlt⟩
    have hvp := hv.p p (List.mem_of_getElem? hp)
    have hdrop : c.Panels.drop lay.length = p :: c.Panels.drop (lay.length + 1) := by
      rw [List.drop_eq_getElem_cons hlt]
      congr 1
      rw [List.getElem?_eq_getElem hlt] at hp
      exact Option.some.inj hp
    rw [hdrop]
    obtain ⟨Start, hStart⟩ : ∃ S : Place → Prop, S = fun pl => ∃ pls, LayIn c.Width m (badT tk) (p :: c.Panels.drop (lay.length + 1)) (pl :: pls) := ⟨_, rfl⟩
    obtain ⟨Good, hGood⟩ : ∃ G : Bool × List Int × List Place → Prop, G = fun y => y.1 = true ∧ ∃ pls, y.2.2 = lay ++ pls ∧ LayIn c.Width m (badT tk) (p :: c.Panels.drop (lay.length + 1)) pls := ⟨_, rfl⟩
    -- one place
    have one : ∀ pl : Place, PlOK pl → pl.Row ≤ 12 ∧ pl.Col ≤ 12 → ∃ y, F_lays_cloth_put n c m tk lay (lay.length : Int) pl = some y ∧ ((y.1 = true ∧ ∃ z, F_lays_cloth_fill n c m y.2.1 y.2.2 = some z ∧ ((z.1 = true ∧ Good (true, z.2.1, z.2.2)) ∨ (z.1 = false ∧ ¬ Start pl))) ∨ (y.1 = false ∧ ¬ Start pl)) := by
      intro pl hpl hpb
      obtain ⟨y, hy, h⟩ := p_put (n := n) (by omega) hv hm hT lay (by omega) hp hpl hpb
      refine ⟨y, hy, ?_⟩
      rcases h with ⟨h1, h2, h3, h4, h5⟩ | ⟨h1, h2⟩
      · refine .inl ⟨h1, ?_⟩
        obtain ⟨z, hz, h⟩ := ih n (by omega) y.2.1 y.2.2 h3 (by rw [h4, List.length_append]; simp; omega)
        refine ⟨z, hz, ?_⟩
        have hlen : y.2.2.length = lay.length + 1 := by rw [h4, List.length_append]; rfl
        rw [hlen] at h
        have conv : ∀ pls, LayIn c.Width m (badT y.2.1) (c.Panels.drop (lay.length + 1)) pls ↔ LayIn c.Width m (fun r x => badT tk r x ∨ cov (rowsT p pl.Turned) pl r x) (c.Panels.drop (lay.length + 1)) pls := fun pls =>
          ⟨fun h => h.mono (Int.le_refl _) fun r x => (h5 r x).2, fun h => h.mono (Int.le_refl _) fun r x => (h5 r x).1⟩
        rcases h with ⟨k1, pls, k2, k3⟩ | ⟨k1, k2⟩
        · refine .inl ⟨k1, ?_⟩
          rw [hGood]
          exact ⟨rfl, pl :: pls, by simp only; rw [k2, h4]; simp, hpl, h2, (conv pls).1 k3⟩
        · refine .inr ⟨k1, ?_⟩
          rw [hStart]
          rintro ⟨pls, _, _, h6⟩
          exact k2 ⟨pls, (conv pls).2 h6⟩
      · refine .inr ⟨h1, ?_⟩
        rw [hStart]
        rintro ⟨pls, _, h6, _⟩
        exact h2 h6
    -- the three loops
    have turn : ∀ row col : Nat, row ≤ 12 → col ≤ 12 → ∃ r, loopO n (F_lays_cloth_fill_s3 n (F_lays_cloth_fill n) c m tk lay (row : Int) (col : Int)) 0 = some r ∧ (match r with | .inl o => ∃ y, o = .inr (.inl (.inr (.inl y))) ∧ Good y | .inr _ => ∀ t : Int, t = 0 ∨ t = 1 → ¬ Start ⟨row, col, t⟩) := by
      intro row col hrow hcol
      refine loop_nats (step := F_lays_cloth_fill_s3 n (F_lays_cloth_fill n) c m tk lay (row : Int) (col : Int)) 2 (fun i (_ : Unit) => (i : Int)) (fun i _ => ∀ t : Nat, t < i → ¬ Start ⟨row, col, t⟩)
        (fun r => match r with | .inl o => ∃ y, o = .inr (.inl (.inr (.inl y))) ∧ Good y | .inr _ => ∀ t : Int, t = 0 ∨ t = 1 → ¬ Start ⟨row, col, t⟩) (n := n) () (by intro t h; omega) (fun i _ hi hI => ?_) (fun _ hI => ?_) (by omega)
      · obtain ⟨y, hy, h⟩ := one ⟨row, col, i⟩ ⟨by simp only; omega, by simp only; omega, by simp only; omega⟩ ⟨by simp only; omega, by simp only; omega⟩
        rw [F_lays_cloth_fill_s3, decide_eq_true (show (i : Int) < 2 by omega)]
        simp only [if_true, hy, Option.bind_some]
        have next : ¬ Start ⟨row, col, i⟩ → ∀ t : Nat, t < i + 1 → ¬ Start ⟨row, col, t⟩ := fun h t ht => by
          rcases Nat.lt_or_ge t i with h' | h'
          · exact hI t h'
          · obtain rfl : t = i := by omega
            exact h
        rcases h with ⟨h1, z, hz, h⟩ | ⟨h1, h2⟩
        · rw [if_pos h1, hz]
          simp only [Option.bind_some]
          rcases h with ⟨k1, k2⟩ | ⟨k1, k2⟩
          · rw [if_pos k1]; exact .inr ⟨_, rfl, _, rfl, k2⟩
          · rw [if_neg (by rw [k1]; decide), w64_nat (by omega)]; exact .inl ⟨(), rfl, next k2⟩
        · rw [if_neg (by rw [h1]; decide), w64_nat (by omega)]; exact .inl ⟨(), rfl, next h2⟩
      · refine ⟨.inr (), by rw [F_lays_cloth_fill_s3]; simp, fun t ht => ?_⟩
        rcases ht with rfl | rfl
        · exact hI 0 (by omega)
        · exact hI 1 (by omega)
    have colL : ∀ row : Nat, row ≤ 12 → ∃ r, loopO n (F_lays_cloth_fill_s2 n (F_lays_cloth_fill n) c m tk lay (row : Int)) 0 = some r ∧ (match r with | .inl o => ∃ y, o = .inr (.inl y) ∧ Good y | .inr _ => ∀ (col : Nat) (t : Int), (col : Int) < c.Width → t = 0 ∨ t = 1 → ¬ Start ⟨row, col, t⟩) := by
      intro row hrow
      refine loop_nats (step := F_lays_cloth_fill_s2 n (F_lays_cloth_fill n) c m tk lay (row : Int)) c.Width.toNat (fun i (_ : Unit) => (i : Int)) (fun i _ => ∀ (col : Nat) (t : Int), col < i → t = 0 ∨ t = 1 → ¬ Start ⟨row, col, t⟩)
        (fun r => match r with | .inl o => ∃ y, o = .inr (.inl y) ∧ Good y | .inr _ => ∀ (col : Nat) (t : Int), (col : Int) < c.Width → t = 0 ∨ t = 1 → ¬ Start ⟨row, col, t⟩) (n := n) () (by intro col t h; omega) (fun i _ hi hI => ?_) (fun _ hI => ?_) (by omega)
      · obtain ⟨r, hr, h⟩ := turn row i hrow (by omega)
        rw [F_lays_cloth_fill_s2, decide_eq_true (show (i : Int) < c.Width by omega)]
        simp only [if_true, hr, Option.bind_some]
        cases r with
        | inl o =>
          obtain ⟨y, rfl, hg⟩ := h
          exact .inr ⟨_, rfl, y, rfl, hg⟩
        | inr u =>
          simp only [w64_nat (show i ≤ 4611686018427387904 by omega)]
          refine .inl ⟨(), by trivial, fun col t hc ht => ?_⟩
          rcases Nat.lt_or_ge col i with h' | h'
          · exact hI col t h' ht
          · obtain rfl : col = i := by omega
            exact h t ht
      · refine ⟨.inr (), by rw [F_lays_cloth_fill_s2, decide_eq_false (by omega)]; rfl, fun col t hc ht => hI col t (by omega) ht⟩
    obtain ⟨r, hr, h⟩ : ∃ r, loopO n (F_lays_cloth_fill_s1 n (F_lays_cloth_fill n) c m tk lay) 0 = some r ∧ (match r with | .inl y => Good y | .inr _ => ∀ (row col : Nat) (t : Int), (row : Int) < m → (col : Int) < c.Width → t = 0 ∨ t = 1 → ¬ Start ⟨row, col, t⟩) := by
      refine loop_nats (step := F_lays_cloth_fill_s1 n (F_lays_cloth_fill n) c m tk lay) m.toNat (fun i (_ : Unit) => (i : Int)) (fun i _ => ∀ (row col : Nat) (t : Int), row < i → (col : Int) < c.Width → t = 0 ∨ t = 1 → ¬ Start ⟨row, col, t⟩)
        (fun r => match r with | .inl y => Good y | .inr _ => ∀ (row col : Nat) (t : Int), (row : Int) < m → (col : Int) < c.Width → t = 0 ∨ t = 1 → ¬ Start ⟨row, col, t⟩) (n := n) () (by intro row col t h; omega) (fun i _ hi hI => ?_) (fun _ hI => ?_) (by omega)
      · obtain ⟨r, hr, h⟩ := colL i (by omega)
        rw [F_lays_cloth_fill_s1, decide_eq_true (show (i : Int) < m by omega)]
        simp only [if_true, hr, Option.bind_some]
        cases r with
        | inl o =>
          obtain ⟨y, rfl, hg⟩ := h
          exact .inr ⟨_, rfl, hg⟩
        | inr u =>
          simp only [w64_nat (show i ≤ 4611686018427387904 by omega)]
          refine .inl ⟨(), by trivial, fun row col t hr hc ht => ?_⟩
          rcases Nat.lt_or_ge row i with h' | h'
          · exact hI row col t h' hc ht
          · obtain rfl : row = i := by omega
            exact h col t hc ht
      · refine ⟨.inr (), by rw [F_lays_cloth_fill_s1, decide_eq_false (by omega)]; rfl, fun row col t hr hc ht => hI row col t (by omega) hc ht⟩
    rw [hr]
    cases r with
    | inl y =>
      simp only at h
      rw [hGood] at h
      exact ⟨y, rfl, .inl h⟩
    | inr u =>
      simp only at h
      refine ⟨(false, tk, lay), rfl, .inr ⟨rfl, ?_⟩⟩
      rintro ⟨pls, hpls⟩
      cases pls with
      | nil => exact hpls
      | cons pl pls =>
        have hf := first_in (hvp.turn pl.Turned) hpls.2.1
        obtain ⟨k1, k2, k3⟩ := hpls.1
        refine h pl.Row.toNat pl.Col.toNat pl.Turned (by omega) (by omega) k3 ?_
        rw [hStart]
        refine ⟨pls, ?_⟩
        have e : (⟨((pl.Row.toNat : Nat) : Int), ((pl.Col.toNat : Nat) : Int), pl.Turned⟩ : Place) = pl := by
          obtain ⟨a, b, t⟩ := pl
          simp only at k1 k2
          simp only [Place.mk.injEq, and_true]
          omega
        rw [e]; exact hpls
theorem p_least (hn : 2000000 ≤ n) {s : Lap} (hv : VL s) {tk : List Int} (hT : TK tk) : ∃ m lay, F_lays_least n s tk = some (m, lay) ∧ LeastIs s (badT tk) m lay := by
  have hL := hv.l
  have hnp := hv.np
  rw [F_lays_least]
  have hw : w64 (s.Length + 1) = s.Length + 1 := w64_id (by omega) (by omega)
  obtain ⟨r, hr, h⟩ := loop_nats (step := F_lays_least_s1 n s tk) (s.Length + 1).toNat (fun i (_ : Unit) => (i : Int)) (fun i _ => ∀ k : Int, 0 ≤ k → k < i → ¬ Has s (badT tk) k)
    (fun r => match r with | .inl y => (0 ≤ y.1 ∧ y.1 ≤ s.Length) ∧ LayIn s.Width y.1 (badT tk) s.Panels y.2 ∧ ∀ k, 0 ≤ k → k < y.1 → ¬ Has s (badT tk) k | .inr _ => ∀ k, 0 ≤ k → k ≤ s.Length → ¬ Has s (badT tk) k) (n := n) () (by intro k h0 h1; omega) (fun i _ hi hI => by
      obtain ⟨y, hy, h⟩ := p_fill hv (m := (i : Int)) ⟨by omega, by omega⟩ s.Panels.length n (by omega) tk [] hT (by simp)
      rw [F_lays_least_s1, hw, decide_eq_true (show (i : Int) < s.Length + 1 by omega)]
      simp only [if_true, hy, Option.bind_some]
      simp only [List.length_nil, List.drop_zero, List.nil_append] at h
      rcases h with ⟨h1, pls, h2, h3⟩ | ⟨h1, h2⟩
      · rw [if_pos h1]
        exact .inr ⟨_, rfl, ⟨by simp only; omega, by simp only; omega⟩, by simp only; rw [h2]; exact h3, hI⟩
      · rw [if_neg (by rw [h1]; decide), w64_nat (by omega)]
        refine .inl ⟨(), rfl, fun k h0 hk => ?_⟩
        rcases Int.lt_or_le k (i : Int) with h' | h'
        · exact hI k h0 h'
        · obtain rfl : k = (i : Int) := by omega
          exact h2) (fun _ hI => by
      refine ⟨.inr (), by rw [F_lays_least_s1, hw, decide_eq_false (by omega)]; rfl, fun k h0 hk => hI k h0 (by omega)⟩) (by omega)
  rw [show (0 : Int) = ((0 : Nat) : Int) from rfl, hr]
  cases r with
  | inl y => exact ⟨y.1, y.2, rfl, .inl h⟩
  | inr u => exact ⟨-1, [], rfl, .inr ⟨rfl, rfl, h⟩⟩
def isBad (ls : List (List Cell)) (r c : Int) : Prop := ∃ l ∈ ls, (⟨r, c⟩ : Cell) ∈ l
theorem LeastIs.congr {s : Lap} {bad bad' : Int → Int → Prop} (hb : ∀ r c, bad r c ↔ bad' r c) {m : Int} {lay : List Place} (h : LeastIs s bad m lay) : LeastIs s bad' m lay := by
  have e : ∀ k, Has s bad' k → Has s bad k := fun k => Has.mono (Int.le_refl _) fun r c => (hb r c).1
  rcases h with ⟨h1, h2, h3⟩ | ⟨h1, h2, h3⟩
  · exact .inl ⟨h1, h2.mono (Int.le_refl _) fun r c => (hb r c).2, fun k h0 hk h => h3 k h0 hk (e k h)⟩
  · exact .inr ⟨h1, h2, fun k h0 hk h => h3 k h0 hk (e k h)⟩
theorem VL.cell {s : Lap} (h : VL s) {c : Cell} (hc : InC s c) : (0 ≤ c.Row ∧ c.Row < 12) ∧ 0 ≤ c.Col ∧ c.Col < 8 := by
  obtain ⟨⟨h1, h2⟩, h3, h4⟩ := hc
  have := h.l; have := h.w
  exact ⟨⟨h1, by omega⟩, h3, by omega⟩
theorem badT_isBad {tk : List Int} {ls : List (List Cell)} (hc : ∀ l ∈ ls, ∀ c ∈ l, (0 ≤ c.Row ∧ c.Row < 12) ∧ 0 ≤ c.Col ∧ c.Col < 8) (h : ∀ r c, hasB tk r c = true ↔ ∃ l ∈ ls, ∃ x ∈ l, x.Row = (r : Nat) ∧ x.Col = (c : Nat)) (r c : Int) : badT tk r c ↔ isBad ls r c := by
  constructor
  · rintro ⟨h0, h1, h2⟩
    obtain ⟨l, hl, x, hx, e1, e2⟩ := (h _ _).1 h2
    refine ⟨l, hl, ?_⟩
    have : x = ⟨r, c⟩ := cell_ext (by rw [e1]; simp only; omega) (by rw [e2]; simp only; omega)
    exact this ▸ hx
  · rintro ⟨l, hl, hx⟩
    have := hc l hl _ hx
    simp only at this
    exact ⟨by omega, by omega, (h _ _).2 ⟨l, hl, _, hx, by simp only; omega, by simp only; omega⟩⟩
/-- cells of the cloth, as bits, and the least lay beside them -/
theorem p_leastOf (hn : 2000000 ≤ n) {s : Lap} (hv : VL s) (ls : List (List Cell)) (hls : ls.length ≤ 2) (hl : ∀ l ∈ ls, l.length ≤ 100) (hc : ∀ l ∈ ls, ∀ c ∈ l, InC s c) :
    ∃ tk m lay, F_lays_cellsOf n ls = some tk ∧ lenck 12 tk = some () ∧ TK tk ∧ (∀ r c, badT tk r c ↔ isBad ls r c) ∧ F_lays_least n s tk = some (m, lay) ∧ LeastIs s (isBad ls) m lay := by
  have hc' : ∀ l ∈ ls, ∀ c ∈ l, (0 ≤ c.Row ∧ c.Row < 12) ∧ 0 ≤ c.Col ∧ c.Col < 8 := fun l h c h' => hv.cell (hc l h c h')
  obtain ⟨tk, h1, h2, h3, h4⟩ := p_cellsOf (n := n) (by omega) ls hls hl hc'
  obtain ⟨m, lay, h5, h6⟩ := p_least hn hv h3
  have hb := badT_isBad hc' h4
  exact ⟨tk, m, lay, h1, h2, h3, hb, h5, h6.congr hb⟩
/-- the answer: rows and no error, or none -/
def ans (m : Int) : Int × Int := if m < 0 then (0, 3) else (m, 0)
def allB (s : Lap) : Int → Int → Prop := isBad [s.Faults, s.Flaws]
def sureB (s : Lap) : Int → Int → Prop := isBad [s.Faults]
theorem p_sure (hn : 2000000 ≤ n) {s : Lap} (hv : VL s) : ∃ m lay, F_lays_sure n s = some ((ans m).1, lay, (ans m).2) ∧ LeastIs s (allB s) m lay := by
  obtain ⟨tk, m, lay, h1, h2, _, _, h5, h6⟩ := p_leastOf hn hv [s.Faults, s.Flaws] (by simp) (fun l hl => by
    simp only [List.mem_cons, List.not_mem_nil, or_false] at hl
    rcases hl with rfl | rfl
    · have := hv.fa.2.2; omega
    · have := hv.fl.2.2; omega) (fun l hl c hc => by
    simp only [List.mem_cons, List.not_mem_nil, or_false] at hl
    rcases hl with rfl | rfl
    · exact (hv.fa.1 c hc).1
    · exact (hv.fl.1 c hc).1)
  refine ⟨m, lay, ?_, h6⟩
  rw [F_lays_sure, p_LCheck0 (by omega) hv]
  simp only [Option.bind_some, h1, h2, h5, ans]
  rw [if_neg (by decide)]
  by_cases hm : m < 0
  · rw [decide_eq_true hm, if_pos hm, if_pos rfl]
    rcases h6 with ⟨h, _⟩ | ⟨_, e, _⟩
    · omega
    · rw [e]
  · rw [decide_eq_false hm, if_neg hm]; rfl
theorem p_Least (hn : 2000000 ≤ n) {s : Lap} (hv : VL s) : ∃ m lay, F_lays_Least n s = some (ans m) ∧ F_lays_Lay n s = some (lay, (ans m).2) ∧ LeastIs s (allB s) m lay := by
  obtain ⟨m, lay, h1, h2⟩ := p_sure hn hv
  exact ⟨m, lay, by rw [F_lays_Least, h1]; rfl, by rw [F_lays_Lay, h1]; rfl, h2⟩
theorem p_Hopes (hn : 2000000 ≤ n) {s : Lap} (hv : VL s) : ∃ m lay, F_lays_Hopes n s = some (ans m) ∧ LeastIs s (sureB s) m lay := by
  obtain ⟨tk, m, lay, h1, h2, _, _, h5, h6⟩ := p_leastOf hn hv [s.Faults] (by simp) (fun l hl => by
    simp only [List.mem_cons, List.not_mem_nil, or_false] at hl
    subst hl; have := hv.fa.2.2; omega) (fun l hl c hc => by
    simp only [List.mem_cons, List.not_mem_nil, or_false] at hl
    subst hl; exact (hv.fa.1 c hc).1)
  refine ⟨m, lay, ?_, h6⟩
  rw [F_lays_Hopes, p_LCheck0 (by omega) hv]
  simp only [Option.bind_some, h1, h2, h5, ans]
  rw [if_neg (by decide)]
  by_cases hm : m < 0
  · rw [decide_eq_true hm, if_pos hm, if_pos rfl]
  · rw [decide_eq_false hm, if_neg hm]; rfl
end
/-- fewer bad cells, or more rows: not less -/
theorem LeastIs.le {a b : Lap} {bad bad' : Int → Int → Prop} (hl : a.Length ≤ b.Length) (h : ∀ k, 0 ≤ k → Has a bad k → Has b bad' k) {m m' : Int} {lay lay' : List Place} (ha : LeastIs a bad m lay) (hb : LeastIs b bad' m' lay') (h0 : 0 ≤ m) : 0 ≤ m' ∧ m' ≤ m := by
  rcases ha with ⟨⟨_, h1⟩, h2, _⟩ | ⟨h1, _⟩
  · have hh := h m h0 ⟨lay, h2⟩
    rcases hb with ⟨⟨h3, _⟩, _, h4⟩ | ⟨_, _, h4⟩
    · refine ⟨h3, ?_⟩
      rcases Int.lt_or_le m m' with hlt | hle
      · exact absurd hh (h4 m h0 hlt)
      · exact hle
    · exact absurd hh (h4 m h0 (by omega))
  · omega
theorem LeastIs.m_eq {s : Lap} {bad : Int → Int → Prop} {m : Int} {lay : List Place} (h : LeastIs s bad m lay) : 0 ≤ m ∨ m = -1 := by
  rcases h with ⟨h, _⟩ | ⟨h, _⟩
  · exact .inl h.1
  · exact .inr h
end Go.Proofs.Ytflhjlgimihmgaa
end
section
namespace Go.Dec
open Go Go.RowKit
theorem Kept.plain {H : Hp} {w w' : World} (h : Kept H w w') (hh : H.hole = none) : Below w.heap.size w w' :=
  ⟨h.below.os, h.below.tape, h.below.output, h.below.size, fun k hk => h.below.block k hk (fun I e => by rw [hh] at e; cases e)⟩
end Go.Dec
end
section
namespace Go.Proofs.Ytflhjlgimihmgaa
open Go Go.RowKit Go.Dec
set_option linter.unusedVariables false
def W_Cell (x : Cell) : Prop := I64 x.Row ∧ I64 x.Col
set_option maxRecDepth 100000 in
theorem o_Cell {T : Type} {enc : TypeId × Value → T} : Opens enc Try.prog 27 2 R_Cell W_Cell := by
  intro w base sp held fuel cs y h
  obtain ⟨xs, n, _, rfl, hl, hlen, hf⟩ := DataW.trod_struct Try.underlying27 h
  have hl2 : cs.length = 2 := hl.trans (by kernel_rfl)
  have hx : xs.length = 2 := hlen
  obtain ⟨c0, c1, rfl⟩ : ∃ c0 c1, cs = [c0, c1] := by
    match cs, hl2 with
    | [c0, c1], _ => exact ⟨_, _, rfl⟩
  have co3 : Try.prog.cellsOf 3 = 1 := by kernel_rfl
  have e0 : DataW.trod enc Try.prog w base sp held n 3 (([c0, c1].drop 0).take (Try.prog.cellsOf 3)) = xs[0]? := hf 0 _ rfl
  rw [co3] at e0
  obtain ⟨_, x0, r0, w0⟩ := (Opens.int (by kernel_rfl)) _ _ _ _ _ _ _ (e0.trans (List.getElem?_eq_getElem (by omega)))
  have e1 : DataW.trod enc Try.prog w base sp held n 3 (([c0, c1].drop 1).take (Try.prog.cellsOf 3)) = xs[1]? := hf 1 _ rfl
  rw [co3] at e1
  obtain ⟨_, x1, r1, w1⟩ := (Opens.int (by kernel_rfl)) _ _ _ _ _ _ _ (e1.trans (List.getElem?_eq_getElem (by omega)))
  have q0 : [c0] = [_] := r0
  cases q0
  have q1 : [c1] = [_] := r1
  cases q1
  exact ⟨rfl, ⟨x0, x1⟩, rfl, w0, w1⟩
def W_Span (x : Span) : Prop := I64 x.Low ∧ I64 x.High
set_option maxRecDepth 100000 in
theorem o_Span {T : Type} {enc : TypeId × Value → T} : Opens enc Try.prog 46 2 R_Span W_Span := by
  intro w base sp held fuel cs y h
  obtain ⟨xs, n, _, rfl, hl, hlen, hf⟩ := DataW.trod_struct Try.underlying46 h
  have hl2 : cs.length = 2 := hl.trans (by kernel_rfl)
  have hx : xs.length = 2 := hlen
  obtain ⟨c0, c1, rfl⟩ : ∃ c0 c1, cs = [c0, c1] := by
    match cs, hl2 with
    | [c0, c1], _ => exact ⟨_, _, rfl⟩
  have co3 : Try.prog.cellsOf 3 = 1 := by kernel_rfl
  have e0 : DataW.trod enc Try.prog w base sp held n 3 (([c0, c1].drop 0).take (Try.prog.cellsOf 3)) = xs[0]? := hf 0 _ rfl
  rw [co3] at e0
  obtain ⟨_, x0, r0, w0⟩ := (Opens.int (by kernel_rfl)) _ _ _ _ _ _ _ (e0.trans (List.getElem?_eq_getElem (by omega)))
  have e1 : DataW.trod enc Try.prog w base sp held n 3 (([c0, c1].drop 1).take (Try.prog.cellsOf 3)) = xs[1]? := hf 1 _ rfl
  rw [co3] at e1
  obtain ⟨_, x1, r1, w1⟩ := (Opens.int (by kernel_rfl)) _ _ _ _ _ _ _ (e1.trans (List.getElem?_eq_getElem (by omega)))
  have q0 : [c0] = [_] := r0
  cases q0
  have q1 : [c1] = [_] := r1
  cases q1
  exact ⟨rfl, ⟨x0, x1⟩, rfl, w0, w1⟩
def W_Panel (x : Panel) : Prop := (fun (l : List Span) => (∀ x ∈ l, W_Span x) ∧ l.length ≤ 9223372036854775807) x.Rows
set_option maxRecDepth 100000 in
theorem o_Panel {T : Type} {enc : TypeId × Value → T} : Opens enc Try.prog 30 1 R_Panel W_Panel := by
  intro w base sp held fuel cs y h
  obtain ⟨xs, n, _, rfl, hl, hlen, hf⟩ := DataW.trod_struct Try.underlying30 h
  have hl2 : cs.length = 1 := hl.trans (by kernel_rfl)
  have hx : xs.length = 1 := hlen
  obtain ⟨c0, rfl⟩ : ∃ c0, cs = [c0] := by
    match cs, hl2 with
    | [c0], _ => exact ⟨_, rfl⟩
  have co28 : Try.prog.cellsOf 28 = 1 := by kernel_rfl
  have e0 : DataW.trod enc Try.prog w base sp held n 28 (([c0].drop 0).take (Try.prog.cellsOf 28)) = xs[0]? := hf 0 _ rfl
  rw [co28] at e0
  obtain ⟨_, x0, r0, w0⟩ := (Opens.slice (e := 46) (sz := 2) (by kernel_rfl) (by kernel_rfl) rfl o_Span) _ _ _ _ _ _ _ (e0.trans (List.getElem?_eq_getElem (by omega)))
  obtain ⟨v0, q0, s0⟩ := r0
  have q0 : [c0] = [v0] := q0
  cases q0
  exact ⟨rfl, ⟨x0⟩, ⟨c0, rfl, s0⟩, w0⟩
def W_Lap (x : Lap) : Prop := I64 x.Width ∧ I64 x.Length ∧ (fun (l : List Cell) => (∀ x ∈ l, W_Cell x) ∧ l.length ≤ 9223372036854775807) x.Faults ∧ (fun (l : List Cell) => (∀ x ∈ l, W_Cell x) ∧ l.length ≤ 9223372036854775807) x.Flaws ∧ (fun (l : List Panel) => (∀ x ∈ l, W_Panel x) ∧ l.length ≤ 9223372036854775807) x.Panels
set_option maxRecDepth 100000 in
theorem o_Lap {T : Type} {enc : TypeId × Value → T} : Opens enc Try.prog 25 5 R_Lap W_Lap := by
  intro w base sp held fuel cs y h
  obtain ⟨xs, n, _, rfl, hl, hlen, hf⟩ := DataW.trod_struct Try.underlying25 h
  have hl2 : cs.length = 5 := hl.trans (by kernel_rfl)
  have hx : xs.length = 5 := hlen
  obtain ⟨c0, c1, c2, c3, c4, rfl⟩ : ∃ c0 c1 c2 c3 c4, cs = [c0, c1, c2, c3, c4] := by
    match cs, hl2 with
    | [c0, c1, c2, c3, c4], _ => exact ⟨_, _, _, _, _, rfl⟩
  have co3 : Try.prog.cellsOf 3 = 1 := by kernel_rfl
  have co22 : Try.prog.cellsOf 22 = 1 := by kernel_rfl
  have co23 : Try.prog.cellsOf 23 = 1 := by kernel_rfl
  have e0 : DataW.trod enc Try.prog w base sp held n 3 (([c0, c1, c2, c3, c4].drop 0).take (Try.prog.cellsOf 3)) = xs[0]? := hf 0 _ rfl
  rw [co3] at e0
  obtain ⟨_, x0, r0, w0⟩ := (Opens.int (by kernel_rfl)) _ _ _ _ _ _ _ (e0.trans (List.getElem?_eq_getElem (by omega)))
  have e1 : DataW.trod enc Try.prog w base sp held n 3 (([c0, c1, c2, c3, c4].drop 1).take (Try.prog.cellsOf 3)) = xs[1]? := hf 1 _ rfl
  rw [co3] at e1
  obtain ⟨_, x1, r1, w1⟩ := (Opens.int (by kernel_rfl)) _ _ _ _ _ _ _ (e1.trans (List.getElem?_eq_getElem (by omega)))
  have e2 : DataW.trod enc Try.prog w base sp held n 22 (([c0, c1, c2, c3, c4].drop 2).take (Try.prog.cellsOf 22)) = xs[2]? := hf 2 _ rfl
  rw [co22] at e2
  obtain ⟨_, x2, r2, w2⟩ := (Opens.slice (e := 27) (sz := 2) (by kernel_rfl) (by kernel_rfl) rfl o_Cell) _ _ _ _ _ _ _ (e2.trans (List.getElem?_eq_getElem (by omega)))
  have e3 : DataW.trod enc Try.prog w base sp held n 22 (([c0, c1, c2, c3, c4].drop 3).take (Try.prog.cellsOf 22)) = xs[3]? := hf 3 _ rfl
  rw [co22] at e3
  obtain ⟨_, x3, r3, w3⟩ := (Opens.slice (e := 27) (sz := 2) (by kernel_rfl) (by kernel_rfl) rfl o_Cell) _ _ _ _ _ _ _ (e3.trans (List.getElem?_eq_getElem (by omega)))
  have e4 : DataW.trod enc Try.prog w base sp held n 23 (([c0, c1, c2, c3, c4].drop 4).take (Try.prog.cellsOf 23)) = xs[4]? := hf 4 _ rfl
  rw [co23] at e4
  obtain ⟨_, x4, r4, w4⟩ := (Opens.slice (e := 30) (sz := 1) (by kernel_rfl) (by kernel_rfl) rfl o_Panel) _ _ _ _ _ _ _ (e4.trans (List.getElem?_eq_getElem (by omega)))
  have q0 : [c0] = [_] := r0
  cases q0
  have q1 : [c1] = [_] := r1
  cases q1
  obtain ⟨v2, q2, s2⟩ := r2
  have q2 : [c2] = [v2] := q2
  cases q2
  obtain ⟨v3, q3, s3⟩ := r3
  have q3 : [c3] = [v3] := q3
  cases q3
  obtain ⟨v4, q4, s4⟩ := r4
  have q4 : [c4] = [v4] := q4
  cases q4
  exact ⟨rfl, ⟨x0, x1, x2, x3, x4⟩, ⟨c2, c3, c4, rfl, s2, s3, s4⟩, w0, w1, w2, w3, w4⟩
def W_Place (x : Place) : Prop := I64 x.Row ∧ I64 x.Col ∧ I64 x.Turned
set_option maxRecDepth 100000 in
theorem o_Place {T : Type} {enc : TypeId × Value → T} : Opens enc Try.prog 62 3 R_Place W_Place := by
  intro w base sp held fuel cs y h
  obtain ⟨xs, n, _, rfl, hl, hlen, hf⟩ := DataW.trod_struct Try.underlying62 h
  have hl2 : cs.length = 3 := hl.trans (by kernel_rfl)
  have hx : xs.length = 3 := hlen
  obtain ⟨c0, c1, c2, rfl⟩ : ∃ c0 c1 c2, cs = [c0, c1, c2] := by
    match cs, hl2 with
    | [c0, c1, c2], _ => exact ⟨_, _, _, rfl⟩
  have co3 : Try.prog.cellsOf 3 = 1 := by kernel_rfl
  have e0 : DataW.trod enc Try.prog w base sp held n 3 (([c0, c1, c2].drop 0).take (Try.prog.cellsOf 3)) = xs[0]? := hf 0 _ rfl
  rw [co3] at e0
  obtain ⟨_, x0, r0, w0⟩ := (Opens.int (by kernel_rfl)) _ _ _ _ _ _ _ (e0.trans (List.getElem?_eq_getElem (by omega)))
  have e1 : DataW.trod enc Try.prog w base sp held n 3 (([c0, c1, c2].drop 1).take (Try.prog.cellsOf 3)) = xs[1]? := hf 1 _ rfl
  rw [co3] at e1
  obtain ⟨_, x1, r1, w1⟩ := (Opens.int (by kernel_rfl)) _ _ _ _ _ _ _ (e1.trans (List.getElem?_eq_getElem (by omega)))
  have e2 : DataW.trod enc Try.prog w base sp held n 3 (([c0, c1, c2].drop 2).take (Try.prog.cellsOf 3)) = xs[2]? := hf 2 _ rfl
  rw [co3] at e2
  obtain ⟨_, x2, r2, w2⟩ := (Opens.int (by kernel_rfl)) _ _ _ _ _ _ _ (e2.trans (List.getElem?_eq_getElem (by omega)))
  have q0 : [c0] = [_] := r0
  cases q0
  have q1 : [c1] = [_] := r1
  cases q1
  have q2 : [c2] = [_] := r2
  cases q2
  exact ⟨rfl, ⟨x0, x1, x2⟩, rfl, w0, w1, w2⟩
end Go.Proofs.Ytflhjlgimihmgaa
end
section
namespace Go.Proofs.Ytflhjlgimihmgaa
open Go Go.RowKit Go.Dec
theorem works_ok : F_law03_works 2000000 = some true := by kernel_rfl
theorem W_Lap.np {s : Lap} (h : W_Lap s) : s.Panels.length ≤ 9223372036854775807 := h.2.2.2.2.2
theorem ans_ok {m : Int} (h : 0 ≤ m) : ans m = (m, 0) := by unfold ans; rw [if_neg (by omega)]
theorem ans_no {m : Int} (h : m = -1) : ans m = (0, 3) := by subst h; rfl
theorem isKnown_ans {n : Nat} (m : Int) : F_law03_isKnown n (ans m).2 = some true := by
  unfold ans F_law03_isKnown
  split <;> rfl
theorem allB_iff {s : Lap} {r c : Int} : allB s r c ↔ (⟨r, c⟩ : Cell) ∈ s.Faults ∨ (⟨r, c⟩ : Cell) ∈ s.Flaws := by
  constructor
  · rintro ⟨l, hl, hc⟩
    simp only [List.mem_cons, List.not_mem_nil, or_false] at hl
    rcases hl with rfl | rfl
    · exact .inl hc
    · exact .inr hc
  · rintro (h | h)
    · exact ⟨_, by simp, h⟩
    · exact ⟨s.Flaws, by simp, h⟩
theorem sureB_iff {s : Lap} {r c : Int} : sureB s r c ↔ (⟨r, c⟩ : Cell) ∈ s.Faults := by
  constructor
  · rintro ⟨l, hl, hc⟩
    simp only [List.mem_cons, List.not_mem_nil, or_false] at hl
    subst hl; exact hc
  · intro h; exact ⟨_, by simp, h⟩
theorem AreC.sub {s : Lap} {l l' o o' : List Cell} (h : AreC s l o) (hl : l'.Sublist l) (ho : ∀ c ∈ o', c ∈ o) : AreC s l' o' := ⟨fun c hc => ⟨(h.1 c (hl.subset hc)).1, fun h' => (h.1 c (hl.subset hc)).2 (ho c h')⟩, h.2.1.sublist hl, Nat.le_trans hl.length_le h.2.2⟩
end Go.Proofs.Ytflhjlgimihmgaa
end
section
namespace Go.Proofs.Ytflhjlgimihmgaa
open Go Go.RowKit Go.Dec
theorem nodup_le {α : Type} : ∀ {l m : List α}, l.Nodup → (∀ x ∈ l, x ∈ m) → l.length ≤ m.length
  | [], _, _, _ => Nat.zero_le _
  | x :: l, m, hl, h => by
    obtain ⟨s, t, rfl⟩ := List.append_of_mem (h x List.mem_cons_self)
    obtain ⟨h1, h2⟩ := List.nodup_cons.1 hl
    have := nodup_le (m := s ++ t) h2 fun y hy => by
      have := h y (List.mem_cons_of_mem _ hy)
      simp only [List.mem_append, List.mem_cons] at this ⊢
      rcases this with h' | rfl | h'
      · exact .inl h'
      · exact absurd hy h1
      · exact .inr h'
    simp only [List.length_append, List.length_cons] at this ⊢
    omega
theorem nodup_map {α β : Type} {f : α → β} {l : List α} (hf : ∀ x y, f x = f y → x = y) (h : l.Nodup) : (l.map f).Nodup := List.pairwise_map.2 (h.imp fun hne e => hne (hf _ _ e))
theorem span_nodup (a b : Int) : (span a b).Nodup := by
  unfold span
  refine nodup_map (fun x y h => ?_) List.nodup_range
  omega
/-- the cells of some rows, from a place on -/
def cellsL (col : Int) : Int → List Span → List Cell
  | _, [] => []
  | r, s :: l => (span s.Low s.High).map (fun c => (⟨r, col + c⟩ : Cell)) ++ cellsL col (r + 1) l
theorem cellsL_mem {col : Int} {c : Cell} : ∀ {rs : List Span} {r : Int}, c ∈ cellsL col r rs ↔ ∃ (k : Nat) (s : Span), rs[k]? = some s ∧ c.Row = r + k ∧ col + s.Low ≤ c.Col ∧ c.Col ≤ col + s.High
  | [], r => by simp [cellsL]
  | s :: l, r => by
    rw [cellsL, List.mem_append, cellsL_mem, List.mem_map]
    constructor
    · rintro (⟨x, hx, rfl⟩ | ⟨k, s', h1, h2, h3⟩)
      · have := span_mem'.1 hx
        exact ⟨0, s, rfl, by simp, by simp only; omega, by simp only; omega⟩
      · exact ⟨k + 1, s', h1, by omega, h3⟩
    · rintro ⟨k, s', h1, h2, h3, h4⟩
      cases k with
      | zero =>
        simp only [List.getElem?_cons_zero, Option.some.injEq] at h1
        subst h1
        exact .inl ⟨c.Col - col, span_mem'.2 ⟨by omega, by omega⟩, cell_ext (by simp only; omega) (by simp only; omega)⟩
      | succ k =>
        exact .inr ⟨k, s', by simpa using h1, by omega, h3, h4⟩
theorem cellsL_nodup {col : Int} : ∀ (rs : List Span) (r : Int), (cellsL col r rs).Nodup
  | [], _ => List.nodup_nil
  | s :: l, r => by
    rw [cellsL]
    refine List.nodup_append.2 ⟨nodup_map (fun x y h => by have := congrArg Cell.Col h; simp only at this; omega) (span_nodup _ _), cellsL_nodup l _, fun x hx y hy e => ?_⟩
    subst e
    obtain ⟨c, _, rfl⟩ := List.mem_map.1 hx
    obtain ⟨k, _, _, h, _⟩ := cellsL_mem.1 hy
    simp only at h; omega
theorem cov_cells {rs : List Span} {pl : Place} {r c : Int} : cov rs pl r c ↔ (⟨r, c⟩ : Cell) ∈ cellsL pl.Col pl.Row rs := (cellsL_mem (c := ⟨r, c⟩)).symm
/-- how many cells a list of rows has -/
def areaR : List Span → Nat
  | [] => 0
  | s :: l => (s.High + 1 - s.Low).toNat + areaR l
theorem cellsL_len (col : Int) : ∀ (rs : List Span) (r : Int), (cellsL col r rs).length = areaR rs
  | [], _ => rfl
  | s :: l, r => by rw [cellsL, List.length_append, List.length_map, span_len, cellsL_len col l, areaR]
theorem areaR_app : ∀ (l m : List Span), areaR (l ++ m) = areaR l + areaR m
  | [], m => by simp [areaR]
  | s :: l, m => by rw [List.cons_append, areaR, areaR, areaR_app l m]; omega
theorem areaR_turn (p : Panel) (t : Int) : areaR (rowsT p t) = areaR p.Rows := by
  unfold rowsT
  split
  · rfl
  · have : ∀ l : List Span, areaR (l.reverse.map fun s => (⟨wide p - s.High, wide p - s.Low⟩ : Span)) = areaR l := by
      intro l
      induction l with
      | nil => rfl
      | cons a l ih =>
        rw [List.reverse_cons, List.map_append, areaR_app, ih, areaR]
        simp only [List.map_cons, List.map_nil, areaR]
        have : (wide p - a.Low + 1 - (wide p - a.High)).toNat = (a.High + 1 - a.Low).toNat := by congr 1; omega
        omega
    exact this p.Rows
theorem areaR_le {rs : List Span} (h : ∀ s ∈ rs, 0 ≤ s.Low ∧ s.Low ≤ s.High ∧ s.High ≤ 7) : areaR rs ≤ 8 * rs.length := by
  induction rs with
  | nil => simp [areaR]
  | cons a l ih =>
    have h1 := h a List.mem_cons_self
    have h2 := ih fun s hs => h s (List.mem_cons_of_mem _ hs)
    rw [areaR, List.length_cons]; omega
def areaP (ps : List Panel) : Nat := (ps.map fun p => areaR p.Rows).sum
/-- the grid of n rows -/
def grid (n W : Nat) : List Cell := (List.range n).flatMap fun (r : Nat) => (List.range W).map fun (c : Nat) => (⟨(r : Int), (c : Int)⟩ : Cell)
theorem grid_len (n W : Nat) : (grid n W).length = n * W := by
  unfold grid
  rw [List.length_flatMap]
  simp only [List.length_map, List.length_range]
  induction n with
  | zero => simp
  | succ n ih => rw [List.range_succ, List.map_append, List.sum_append, ih]; simp [Nat.succ_mul]
theorem grid_mem {n W : Nat} {c : Cell} : c ∈ grid n W ↔ (0 ≤ c.Row ∧ c.Row < n) ∧ 0 ≤ c.Col ∧ c.Col < W := by
  unfold grid
  simp only [List.mem_flatMap, List.mem_map, List.mem_range]
  constructor
  · rintro ⟨r, hr, x, hx, rfl⟩
    exact ⟨⟨by simp only; omega, by simp only; omega⟩, by simp only; omega, by simp only; omega⟩
  · rintro ⟨⟨h1, h2⟩, h3, h4⟩
    exact ⟨c.Row.toNat, by omega, c.Col.toNat, by omega, cell_ext (by simp only; omega) (by simp only; omega)⟩
/-- panels beside some cells need room -/
theorem LayIn.count {W n : Nat} : ∀ {ps : List Panel} {pls : List Place} {bad : Int → Int → Prop} (B : List Cell), (∀ p ∈ ps, VPn p) → LayIn (W : Int) (n : Int) bad ps pls → B.Nodup → (∀ c ∈ B, bad c.Row c.Col ∧ c ∈ grid n W) → areaP ps + B.length ≤ n * W
  | [], [], bad, B, _, _, hB, h => by
    have := nodup_le hB fun c hc => (h c hc).2
    rw [grid_len] at this
    simpa [areaP] using this
  | p :: ps, pl :: pls, bad, B, hp, ⟨h1, h2, h3⟩, hB, h => by
    have hv := hp p List.mem_cons_self
    have hR := hv.turn pl.Turned
    have hin : ∀ c ∈ cellsL pl.Col pl.Row (rowsT p pl.Turned), c ∈ grid n W ∧ ¬ bad c.Row c.Col := fun c hc => by
      have hcov : cov (rowsT p pl.Turned) pl c.Row c.Col := cov_cells.2 hc
      obtain ⟨k1, k2, k3⟩ := h2 _ _ hcov
      obtain ⟨k, s, g1, g2, g3, g4⟩ := hcov
      have := hR.r s (List.mem_of_getElem? g1)
      have := h1.1; have := h1.2.1
      exact ⟨grid_mem.2 ⟨⟨by omega, k1⟩, by omega, k2⟩, k3⟩
    have := h3.count (cellsL pl.Col pl.Row (rowsT p pl.Turned) ++ B) (fun q hq => hp q (List.mem_cons_of_mem _ hq)) (List.nodup_append.2 ⟨cellsL_nodup _ _, hB, fun x hx y hy e => by
      subst e; exact (hin x hx).2 (h x hy).1⟩) (fun c hc => by
      rcases List.mem_append.1 hc with hc | hc
      · exact ⟨.inr (cov_cells.2 hc), (hin c hc).1⟩
      · exact ⟨.inl (h c hc).1, (h c hc).2⟩)
    rw [List.length_append, cellsL_len, areaR_turn] at this
    simp only [areaP, List.map_cons, List.sum_cons] at this ⊢
    omega
section
variable {n : Nat}
theorem p_TurnedRows (hn : 1000000 ≤ n) {p : Panel} (h : VPn p) : F_ref03_TurnedRows n p = some (rowsT p 1) := by
  rw [F_ref03_TurnedRows]
  have hl := h.n
  have h1 := (loop_fold (step := F_ref03_TurnedRows_s1 n p) p.Rows (fun i (z : Int) => (z, (i : Int))) (fun z s => max z s.High) (fun z => z) (fun _ _ => True) (n := n) 0 trivial (fun i x z hx _ => by
    have hi := (List.getElem?_eq_some_iff.1 hx).1
    refine ⟨?_, trivial⟩
    rw [F_ref03_TurnedRows_s1, dlt, decide_eq_true hi, geti_nat, hx]
    simp only [if_true, Option.bind_some, w64_nat (show i ≤ 4611686018427387904 by omega)]) (fun z _ => by rw [F_ref03_TurnedRows_s1, dlt]; simp) (by omega)).1
  rw [show ((0 : Int), (0 : Int)) = ((0 : Int), ((0 : Nat) : Int)) from rfl, h1]
  simp only [Option.bind_some]
  rw [show p.Rows.foldl (fun z s => max z s.High) 0 = wide p from rfl]
  obtain ⟨⟨w0, w7⟩, hw, _⟩ := h.wide
  have key : ∀ (k : Nat) (s : List Span) (n' : Nat), k ≤ p.Rows.length → s.length + k = p.Rows.length → k < n' → loopO n' (F_ref03_TurnedRows_s2 n p (wide p)) ((k : Int) - 1, s) = some (s ++ (p.Rows.take k).reverse.map fun s => (⟨wide p - s.High, wide p - s.Low⟩ : Span)) := by
    intro k
    induction k with
    | zero =>
      intro s n' _ _ hn'
      refine loop_done ?_ hn'
      rw [F_ref03_TurnedRows_s2]; simp
    | succ k ih =>
      intro s n' hk hs hn'
      obtain ⟨m, rfl⟩ : ∃ k, n' = k + 1 := ⟨n' - 1, by omega⟩
      have hlt : k < p.Rows.length := by omega
      have hx' := h.r p.Rows[k] (List.getElem_mem hlt)
      have hw' := hw p.Rows[k] (List.getElem_mem hlt)
      have e0 : ((k + 1 : Nat) : Int) - 1 = (k : Int) := by omega
      rw [loopO_succ, e0, F_ref03_TurnedRows_s2, if_pos (by simp), geti_nat, List.getElem?_eq_getElem hlt]
      simp only [Option.bind_some]
      rw [w64_id (by omega) (by omega), w64_id (by omega) (by omega), w64_id (show -9223372036854775808 ≤ (k : Int) - 1 by omega) (by omega), lim_ok (by rw [List.length_append]; simp; omega)]
      simp only [Option.bind_some]
      rw [ih _ m (by omega) (by rw [List.length_append]; simp; omega) (by omega), List.take_succ_eq_append_getElem hlt]
      simp only [List.reverse_append, List.reverse_cons, List.reverse_nil, List.nil_append, List.cons_append, List.map_cons, List.append_assoc]
  rw [w64_id (by omega) (by omega), key p.Rows.length [] n (Nat.le_refl _) (by simp) (by omega), List.take_length]
  simp only [Option.bind_some, List.nil_append, rowsT]
  rw [if_neg (by decide)]
theorem getElem_drop_cons {α : Type} {l : List α} {i : Nat} {x : α} (h : l[i]? = some x) : l.drop i = x :: l.drop (i + 1) := by
  obtain ⟨h1, h2⟩ := List.getElem?_eq_some_iff.1 h
  rw [List.drop_eq_getElem_cons h1, h2]
/-- cells row by row: what both loops do -/
theorem cells_loop {S : Type} {step : S → Option (S ⊕ List Cell)} (enc : Nat → List Cell → S) (rs : List Span) (R C : Int) {n : Nat} (hlen : rs.length ≤ 4) (hr : ∀ s ∈ rs, 0 ≤ s.Low ∧ s.Low ≤ s.High ∧ s.High ≤ 7)
    (h : ∀ k s out, rs[k]? = some s → out.length ≤ 8 * k → step (enc k out) = some (.inl (enc (k + 1) (out ++ (span s.Low s.High).map fun c => (⟨R + k, C + c⟩ : Cell))))) (hd : ∀ out, step (enc rs.length out) = some (.inr out)) (hn : 5 < n) : loopO n step (enc 0 []) = some (cellsL C R rs) := by
  have key : ∀ (m k : Nat) (out : List Cell) (n : Nat), k + m = rs.length → out.length ≤ 8 * k → m < n → loopO n step (enc k out) = some (out ++ cellsL C (R + k) (rs.drop k)) := by
    intro m
    induction m with
    | zero =>
      intro k out n hk _ hn
      obtain rfl : k = rs.length := by omega
      rw [loop_done (hd out) hn, List.drop_length, cellsL, List.append_nil]
    | succ m ih =>
      intro k out n hk ho hn
      obtain ⟨n', rfl⟩ : ∃ k, n = k + 1 := ⟨n - 1, by omega⟩
      obtain ⟨s, hs⟩ : ∃ s, rs[k]? = some s := ⟨_, List.getElem?_eq_getElem (by omega)⟩
      have hs' := hr s (List.mem_of_getElem? hs)
      rw [loopO_succ, h k s out hs ho, getElem_drop_cons hs, cellsL]
      simp only
      rw [ih (k + 1) _ n' (by omega) (by rw [List.length_append, List.length_map, span_len]; omega) (by omega), List.append_assoc, show R + ((k + 1 : Nat) : Int) = R + k + 1 by omega]
  have := key rs.length 0 [] n (by omega) (by simp) (by omega)
  rw [this, List.drop_zero, List.nil_append, Int.natCast_zero, Int.add_zero]
/-- cells of one row: what both loops do -/
theorem row_loop {step : Int × List Cell → Option ((Int × List Cell) ⊕ List Cell)} (hi R C : Int)
    (h : ∀ c out, 0 ≤ c → c ≤ hi → out.length ≤ 1000 → step (c, out) = some (.inl (c + 1, out ++ [(⟨R, C + c⟩ : Cell)]))) (hd : ∀ c out, hi < c → step (c, out) = some (.inr out)) : ∀ (k : Nat) (lo : Int) (out : List Cell) (n : Nat), (hi + 1 - lo).toNat = k → 0 ≤ lo → out.length + k ≤ 1000 → k < n →
    loopO n step (lo, out) = some (out ++ (span lo hi).map fun c => (⟨R, C + c⟩ : Cell)) := by
  intro k
  induction k with
  | zero =>
    intro lo out n hk _ _ hn
    rw [span_nil (by omega), loop_done (hd lo out (by omega)) hn]; simp
  | succ k ih =>
    intro lo out n hk h0 ho hn
    obtain ⟨m, rfl⟩ : ∃ k, n = k + 1 := ⟨n - 1, by omega⟩
    rw [loopO_succ, h lo out h0 (by omega) (by omega), span_cons (by omega)]
    simp only
    rw [ih (lo + 1) _ m (by omega) (by omega) (by rw [List.length_append]; simp; omega) (by omega)]
    simp
theorem p_CellsOf (hn : 1000000 ≤ n) {p : Panel} (hv : VPn p) {pl : Place} (hpl : PlOK pl) (hb : pl.Row ≤ 100 ∧ pl.Col ≤ 100) : F_ref03_CellsOf n p pl = some (cellsL pl.Col pl.Row (rowsT p pl.Turned)) := by
  rw [F_ref03_CellsOf]
  have e : (if (pl.Turned == 1) = true then ((F_ref03_TurnedRows n p).bind fun y10 => some y10) else (some p.Rows)) = some (rowsT p pl.Turned) := by
    rcases hpl.2.2 with h | h
    · rw [h]; rfl
    · rw [h, p_TurnedRows hn hv]; rfl
  rw [e]
  simp only [Option.bind_some]
  have hR := hv.turn pl.Turned
  generalize rowsT p pl.Turned = rs at hR
  obtain ⟨hRn, hRr, _⟩ := hR
  simp only at hRn hRr
  obtain ⟨h0, h1, _⟩ := hpl
  have := cells_loop (step := F_ref03_CellsOf_s1 n pl rs) (fun k out => ((k : Int), out)) rs pl.Row pl.Col (n := n) (by omega) hRr (fun k s out hs ho => by
    have hk := (List.getElem?_eq_some_iff.1 hs).1
    have hs' := hRr s (List.mem_of_getElem? hs)
    have hrow := row_loop (step := F_ref03_CellsOf_s2 n pl rs (k : Int)) s.High (pl.Row + k) pl.Col (fun c out hc0 hc ho => by
      rw [F_ref03_CellsOf_s2, geti_nat, hs]
      simp only [Option.bind_some]
      rw [decide_eq_true hc, if_pos rfl, w64_id (by omega) (by omega), w64_id (by omega) (by omega), w64_id (show -9223372036854775808 ≤ c + 1 by omega) (by omega), lim_ok (by rw [List.length_append]; simp; omega)]
      rfl) (fun c out hc => by
      rw [F_ref03_CellsOf_s2, geti_nat, hs]
      simp only [Option.bind_some]
      rw [decide_eq_false (by omega)]; rfl) _ s.Low out n rfl hs'.1 (by omega) (by omega)
    rw [F_ref03_CellsOf_s1, dlt, decide_eq_true hk, geti_nat, hs]
    simp only [if_true, Option.bind_some, hrow, w64_nat (show k ≤ 4611686018427387904 by omega)]) (fun out => by rw [F_ref03_CellsOf_s1, dlt]; simp) (by omega)
  rw [show ((0 : Int), ([] : List Cell)) = (((0 : Nat) : Int), ([] : List Cell)) from rfl, this]
  rfl
theorem PlOK.zero : PlOK ⟨0, 0, 0⟩ := ⟨Int.le_refl _, Int.le_refl _, .inl rfl⟩
theorem sum_foldl : ∀ (ps : List Panel) (a : Int), ps.foldl (fun z p => z + (areaR p.Rows : Int)) a = a + (areaP ps : Nat)
  | [], a => by simp [areaP]
  | p :: ps, a => by
    rw [List.foldl_cons, sum_foldl ps]
    simp only [areaP, List.map_cons, List.sum_cons]; omega
theorem sure_all {s : Lap} (r c : Int) (h : sureB s r c) : allB s r c := allB_iff.2 (.inl (sureB_iff.1 h))
end
end Go.Proofs.Ytflhjlgimihmgaa
end
section
namespace Go.Proofs.Ytflhjlgimihmgaa
open Go Go.RowKit Go.Dec
def IsPl (p : Place) : Prop := (0 ≤ p.Row ∧ p.Row ≤ 12) ∧ (0 ≤ p.Col ∧ p.Col ≤ 12) ∧ 0 ≤ p.Turned ∧ p.Turned ≤ 1
theorem IsPl.ok {p : Place} (h : IsPl p) : PlOK p := ⟨h.1.1, h.2.1.1, by have := h.2.2; omega⟩
/-- cells that are bad, or used -/
def inL (l : List Cell) (r c : Int) : Prop := (⟨r, c⟩ : Cell) ∈ l
section
variable {n : Nat}
theorem p_IsPlace (p : Place) : ∃ b, F_ref03_IsPlace n p = some b ∧ (b = true ↔ IsPl p) := by
  refine ⟨((decide (0 ≤ p.Row) && decide (p.Row ≤ 12)) && (decide (0 ≤ p.Col) && decide (p.Col ≤ 12))) && (decide (0 ≤ p.Turned) && decide (p.Turned ≤ 1)), ?_, by simp [IsPl, and_assoc]⟩
  rw [F_ref03_IsPlace, p_within, p_within, p_within]
  cases (decide (0 ≤ p.Row) && decide (p.Row ≤ 12)) <;> cases (decide (0 ≤ p.Col) && decide (p.Col ≤ 12)) <;> rfl
/-- one panel: all of its cells are free, and so many rows -/
theorem p_Rows2 (hn : 1000000 ≤ n) {s : Lap} (hv : VL s) (bad used l : List Cell) (hb : bad.length ≤ 10000) (hu : used.length ≤ 10000) (hl : l.length ≤ 100) (rows : Int) (h0 : 0 ≤ rows ∧ rows ≤ 12) :
    ∃ r, loopO n (F_ref03_Rows_s2 n s bad used l) (rows, 0) = some r ∧ (match r with | .inl o => o = .inr (.inl (-1)) ∧ ¬ (∀ c ∈ l, InC s c ∧ c ∉ bad ∧ c ∉ used) | .inr k => (∀ c ∈ l, InC s c ∧ c ∉ bad ∧ c ∉ used) ∧ (rows ≤ k ∧ k ≤ 12) ∧ ∀ j : Int, rows ≤ j → (k ≤ j ↔ ∀ c ∈ l, c.Row < j)) := by
  have hL := hv.l
  refine loop_list (step := F_ref03_Rows_s2 n s bad used l) l (fun i (z : Int) => (z, (i : Int))) (fun i z => (∀ j x, j < i → l[j]? = some x → InC s x ∧ x ∉ bad ∧ x ∉ used) ∧ (rows ≤ z ∧ z ≤ 12) ∧ ∀ t : Int, rows ≤ t → (z ≤ t ↔ ∀ j x, j < i → l[j]? = some x → x.Row < t))
    (fun r => match r with | .inl o => o = .inr (.inl (-1)) ∧ ¬ (∀ c ∈ l, InC s c ∧ c ∉ bad ∧ c ∉ used) | .inr k => (∀ c ∈ l, InC s c ∧ c ∉ bad ∧ c ∉ used) ∧ (rows ≤ k ∧ k ≤ 12) ∧ ∀ j : Int, rows ≤ j → (k ≤ j ↔ ∀ c ∈ l, c.Row < j)) (n := n) rows
    ⟨by intro j x h; omega, ⟨Int.le_refl _, h0.2⟩, fun t ht => ⟨fun _ j x h => by omega, fun _ => ht⟩⟩ (fun i x z hx hI => ?_) (fun z hI => ?_) (by omega)
  · have hi := (List.getElem?_eq_some_iff.1 hx).1
    obtain ⟨hall, hz, hiff⟩ := hI
    rw [F_ref03_Rows_s2, dlt, decide_eq_true hi, geti_nat, hx]
    simp only [if_true, Option.bind_some, p_IsCell hv.l hv.w, p_In hn bad hb, p_In hn used hu, w64_nat (show i ≤ 4611686018427387904 by omega)]
    by_cases hok : InC s x ∧ x ∉ bad ∧ x ∉ used
    · rw [cellB_t.2 hok.1, inB_f.2 hok.2.1, inB_f.2 hok.2.2]
      obtain ⟨⟨r0, r1⟩, _⟩ := hok.1
      refine .inl ⟨max z (x.Row + 1), ?_, fun j y hj hy => ?_, ⟨by omega, by omega⟩, fun t ht => ?_⟩
      · simp only [Bool.not_true, Bool.false_eq_true, if_false, Option.bind_some]
        rw [w64_id (show -9223372036854775808 ≤ x.Row + 1 by omega) (by omega)]
      · rcases Nat.lt_or_ge j i with h | h
        · exact hall j y h hy
        · obtain rfl : j = i := by omega
          rw [hx] at hy; cases hy; exact hok
      · constructor
        · intro h j y hj hy
          rcases Nat.lt_or_ge j i with h' | h'
          · exact (hiff t ht).1 (by omega) j y h' hy
          · obtain rfl : j = i := by omega
            rw [hx] at hy; cases hy; omega
        · intro h
          have h1 := (hiff t ht).2 fun j y hj hy => h j y (by omega) hy
          have h2 := h i x (by omega) hx
          omega
    · refine .inr ⟨.inl (.inr (.inl (-1))), ?_, rfl, fun h => hok (h x (List.mem_of_getElem? hx))⟩
      cases h1 : cellB s x with
      | false => rfl
      | true =>
        cases h2 : inB bad x with
        | true => rfl
        | false =>
          cases h3 : inB used x with
          | true => rfl
          | false => exact absurd ⟨cellB_t.1 h1, inB_f.1 h2, inB_f.1 h3⟩ hok
  · refine ⟨.inr z, by rw [F_ref03_Rows_s2, dlt]; simp, fun c hc => ?_, hI.2.1, fun j hj => (hI.2.2 j hj).trans ⟨fun h c hc => ?_, fun h k x _ hk => h x (List.mem_of_getElem? hk)⟩⟩
    · obtain ⟨j, hj⟩ := List.mem_iff_getElem?.1 hc
      exact hI.1 j c (List.getElem?_eq_some_iff.1 hj).1 hj
    · obtain ⟨k, hk⟩ := List.mem_iff_getElem?.1 hc
      exact h k c (List.getElem?_eq_some_iff.1 hk).1 hk
theorem fits_iff {s : Lap} {bad used : List Cell} {rs : List Span} {pl : Place} (hr : ∀ s ∈ rs, 0 ≤ s.Low ∧ s.Low ≤ s.High ∧ s.High ≤ 7) (hpl : PlOK pl) (j : Int) : Fits s.Width j (fun r c => inL bad r c ∨ inL used r c) rs pl ↔ ∀ c ∈ cellsL pl.Col pl.Row rs, c.Row < j ∧ c.Col < s.Width ∧ c ∉ bad ∧ c ∉ used := by
  constructor
  · intro h c hc
    obtain ⟨h1, h2, h3⟩ := h c.Row c.Col (cov_cells.2 hc)
    exact ⟨h1, h2, fun hb => h3 (.inl hb), fun hb => h3 (.inr hb)⟩
  · intro h r c hc
    obtain ⟨h1, h2, h3, h4⟩ := h _ (cov_cells.1 hc)
    exact ⟨h1, h2, fun hb => hb.elim h3 h4⟩
theorem p_Rows (hn : 1000000 ≤ n) {s : Lap} (hv : VL s) (bad : List Cell) (hb : bad.length ≤ 1000) (lay : List Place) (hlay : lay.length ≤ 20) (hpl : ∀ p ∈ lay, IsPl p) :
    ∃ k, F_ref03_Rows n s bad lay = some k ∧ ((k = -1 ∧ ¬ LayIn s.Width s.Length (inL bad) s.Panels lay) ∨ ((0 ≤ k ∧ k ≤ s.Length) ∧ ∀ j, 0 ≤ j → (LayIn s.Width j (inL bad) s.Panels lay ↔ k ≤ j))) := by
  have hL := hv.l
  have hnp := hv.np
  rw [F_ref03_Rows]
  by_cases hlen : lay.length = s.Panels.length
  · rw [if_neg (by simp; omega)]
    have key : ∀ (m i : Nat) (rows : Int) (used : List Cell) (n' : Nat), i + m = lay.length → (0 ≤ rows ∧ rows ≤ s.Length) → used.length ≤ 32 * i → m < n' →
        ∃ r, loopO n' (F_ref03_Rows_s1 n s bad lay) (rows, (i : Int), used) = some r ∧ (match r with | .inl k => k = -1 ∧ ¬ LayIn s.Width s.Length (fun r c => inL bad r c ∨ inL used r c) (s.Panels.drop i) (lay.drop i) | .inr k => (rows ≤ k ∧ k ≤ s.Length) ∧ ∀ j, rows ≤ j → (LayIn s.Width j (fun r c => inL bad r c ∨ inL used r c) (s.Panels.drop i) (lay.drop i) ↔ k ≤ j)) := by
      intro m
      induction m with
      | zero =>
        intro i rows used n' hi h0 hu hn'
        obtain rfl : i = lay.length := by omega
        refine ⟨.inr rows, loop_done (by rw [F_ref03_Rows_s1, dlt]; simp) hn', ⟨Int.le_refl _, h0.2⟩, fun j hj => ?_⟩
        rw [List.drop_length, hlen, List.drop_length]
        exact iff_of_true trivial hj
      | succ m ih =>
        intro i rows used n' hi h0 hu hn'
        obtain ⟨n', rfl⟩ : ∃ k, n' = k + 1 := ⟨n' - 1, by omega⟩
        obtain ⟨pl, hp⟩ : ∃ p, lay[i]? = some p := ⟨_, List.getElem?_eq_getElem (by omega)⟩
        obtain ⟨pa, hpa⟩ : ∃ p, s.Panels[i]? = some p := ⟨_, List.getElem?_eq_getElem (by omega)⟩
        have hvp := hv.p pa (List.mem_of_getElem? hpa)
        have hpp := hpl pl (List.mem_of_getElem? hp)
        have hR := hvp.turn pl.Turned
        have hcl : (cellsL pl.Col pl.Row (rowsT pa pl.Turned)).length ≤ 32 := by
          rw [cellsL_len, areaR_turn]
          have := areaR_le hvp.r
          have := hvp.n
          omega
        obtain ⟨r, hr, h⟩ := p_Rows2 hn hv bad used (cellsL pl.Col pl.Row (rowsT pa pl.Turned)) (by omega) (by omega) (by omega) rows ⟨h0.1, by omega⟩
        rw [loopO_succ, F_ref03_Rows_s1, dlt, decide_eq_true (show i < lay.length by omega), geti_nat, geti_nat, hpa, hp]
        have hb1 := hpp.1.2; have hb2 := hpp.2.1.2
        simp only [if_true, Option.bind_some, p_CellsOf hn hvp hpp.ok ⟨by omega, by omega⟩, hr]
        rw [getElem_drop_cons hpa, getElem_drop_cons hp]
        cases r with
        | inl o =>
          obtain ⟨rfl, hno⟩ := h
          refine ⟨.inl (-1), rfl, rfl, fun hLay => hno fun c hc => ?_⟩
          obtain ⟨k1, k2, k3, k4⟩ := (fits_iff hR.r hpp.ok _).1 hLay.2.1 c hc
          obtain ⟨t, sp, g1, g2, g3, g4⟩ := cellsL_mem.1 hc
          have := hR.r sp (List.mem_of_getElem? g1)
          have := hpp.1.1; have := hpp.2.1.1
          exact ⟨⟨⟨by omega, by omega⟩, by omega, by omega⟩, k3, k4⟩
        | inr k =>
          obtain ⟨hall, hk, hiff⟩ := h
          simp only
          rw [lim_ok (by rw [List.length_append]; omega)]
          simp only [Option.bind_some, w64_nat (show i ≤ 4611686018427387904 by omega)]
          have hkL : k ≤ s.Length := by
            have := (hiff s.Length h0.2).2 fun c hc => by have := (hall c hc).1.1; omega
            exact this
          obtain ⟨r', hr', h'⟩ := ih (i + 1) k (used ++ cellsL pl.Col pl.Row (rowsT pa pl.Turned)) n' (by omega) ⟨by omega, hkL⟩ (by rw [List.length_append]; omega) (by omega)
          refine ⟨r', hr', ?_⟩
          have conv : ∀ j, LayIn s.Width j (fun r c => inL bad r c ∨ inL (used ++ cellsL pl.Col pl.Row (rowsT pa pl.Turned)) r c) (s.Panels.drop (i + 1)) (lay.drop (i + 1)) ↔ LayIn s.Width j (fun r c => (inL bad r c ∨ inL used r c) ∨ cov (rowsT pa pl.Turned) pl r c) (s.Panels.drop (i + 1)) (lay.drop (i + 1)) := fun j => by
            have e : ∀ r c, (inL bad r c ∨ inL (used ++ cellsL pl.Col pl.Row (rowsT pa pl.Turned)) r c) ↔ ((inL bad r c ∨ inL used r c) ∨ cov (rowsT pa pl.Turned) pl r c) := fun r c => by
              rw [cov_cells, or_assoc]
              exact or_congr Iff.rfl List.mem_append
            exact ⟨fun h => h.mono (Int.le_refl _) fun r c => (e r c).2, fun h => h.mono (Int.le_refl _) fun r c => (e r c).1⟩
          have fit : ∀ j, rows ≤ j → (Fits s.Width j (fun r c => inL bad r c ∨ inL used r c) (rowsT pa pl.Turned) pl ↔ k ≤ j) := fun j hj => by
            rw [hiff j hj, fits_iff hR.r hpp.ok]
            exact ⟨fun h c hc => (h c hc).1, fun h c hc => ⟨h c hc, by have := (hall c hc).1.2; omega, (hall c hc).2⟩⟩
          cases r' with
          | inl k' =>
            obtain ⟨e1, hno⟩ := h'
            exact ⟨e1, fun hLay => hno ((conv _).2 hLay.2.2)⟩
          | inr k' =>
            obtain ⟨⟨g1, g2⟩, g3⟩ := h'
            refine ⟨⟨by omega, g2⟩, fun j hj => ?_⟩
            constructor
            · intro hLay
              have h1 := (fit j hj).1 hLay.2.1
              exact (g3 j h1).1 ((conv j).2 hLay.2.2)
            · intro h1
              exact ⟨hpp.ok, (fit j hj).2 (by omega), (conv j).1 ((g3 j (by omega)).2 h1)⟩
    obtain ⟨r, hr, h⟩ := key lay.length 0 0 [] n (by omega) ⟨Int.le_refl _, by omega⟩ (by simp) (by omega)
    rw [show ((0 : Int), (0 : Int), ([] : List Cell)) = ((0 : Int), ((0 : Nat) : Int), ([] : List Cell)) from rfl, hr]
    have conv : ∀ j, LayIn s.Width j (fun r c => inL bad r c ∨ inL [] r c) s.Panels lay ↔ LayIn s.Width j (inL bad) s.Panels lay := fun j => ⟨fun h => h.mono (Int.le_refl _) fun r c h => .inl h, fun h => h.mono (Int.le_refl _) fun r c h => h.elim id fun h => by cases h⟩
    simp only [List.drop_zero, conv] at h
    cases r with
    | inl k => exact ⟨k, rfl, .inl h⟩
    | inr k => exact ⟨k, rfl, .inr h⟩
  · rw [if_pos (by simp; omega)]
    exact ⟨-1, rfl, .inl ⟨rfl, fun h => hlen h.len⟩⟩
/-- the statement's own: .. and all of them are places -/
theorem p_rowsLaw (hn : 1000000 ≤ n) {s : Lap} (hv : VL s) (lay : List Place) (hlay : lay.length ≤ 20) (hpl : ∀ p ∈ lay, IsPl p) : F_law03_rows n s lay = F_ref03_Rows n s (s.Faults ++ s.Flaws) lay := by
  rw [F_law03_rows]
  have h := loop_all_l (step := F_law03_rows_s1 n lay) lay (fun _ => true) (-1 : Int) (n := n) (by omega) (fun i x hx hi => by
    obtain ⟨b, e, q⟩ := p_IsPlace (n := n) x
    rw [F_law03_rows_s1, dlt, decide_eq_true hi, geti_nat, hx]
    simp only [if_true, Option.bind_some, e, q.2 (hpl x (List.mem_of_getElem? hx)), w64_nat (show i ≤ 4611686018427387904 by omega)]
    rfl) (by rw [F_law03_rows_s1, dlt]; simp) (by omega)
  have e : lay.all (fun _ => true) = true := by simp
  rw [h, e]
  have h1 := hv.fa.2.2
  have h2 := hv.fl.2.2
  simp only [cond_true, Option.bind_some, List.nil_append]
  rw [lim_ok (by omega)]
  simp only [Option.bind_some]
  rw [lim_ok (by rw [List.length_append]; omega)]
  simp only [Option.bind_some]
  cases F_ref03_Rows n s (s.Faults ++ s.Flaws) lay <;> rfl
theorem inL_all {s : Lap} (r c : Int) : inL (s.Faults ++ s.Flaws) r c ↔ allB s r c := by
  rw [allB_iff]; exact List.mem_append
theorem inL_sure {s : Lap} (r c : Int) : inL s.Faults r c ↔ sureB s r c := by
  rw [sureB_iff]; exact Iff.rfl
theorem LayIn.congr {W n : Int} {ps : List Panel} {pls : List Place} {bad bad' : Int → Int → Prop} (h : ∀ r c, bad r c ↔ bad' r c) : LayIn W n bad ps pls ↔ LayIn W n bad' ps pls := ⟨fun k => k.mono (Int.le_refl _) fun r c => (h r c).2, fun k => k.mono (Int.le_refl _) fun r c => (h r c).1⟩
theorem p_Area (hn : 1000000 ≤ n) {s : Lap} (hv : VL s) : F_ref03_Area n s = some ((areaP s.Panels : Nat) : Int) := by
  rw [F_ref03_Area]
  have hnp := hv.np
  have h := (loop_fold (step := F_ref03_Area_s1 n s) s.Panels (fun i (z : Int) => (z, (i : Int))) (fun z p => z + (areaR p.Rows : Int)) (fun z => z) (fun i z => 0 ≤ z ∧ z ≤ 32 * i) (n := n) 0 ⟨by omega, by omega⟩ (fun i x z hx hI => by
    have hi := (List.getElem?_eq_some_iff.1 hx).1
    have hvp := hv.p x (List.mem_of_getElem? hx)
    have ha := areaR_le hvp.r
    have hxn := hvp.n
    rw [F_ref03_Area_s1, dlt, decide_eq_true hi, geti_nat, hx]
    simp only [if_true, Option.bind_some, p_CellsOf hn hvp PlOK.zero (by decide), w64_nat (show i ≤ 4611686018427387904 by omega)]
    rw [cellsL_len, show rowsT x 0 = x.Rows from rfl, w64_id (by omega) (by omega)]
    exact ⟨rfl, by omega, by omega⟩) (fun z _ => by rw [F_ref03_Area_s1, dlt]; simp) (by omega)).1
  rw [show ((0 : Int), (0 : Int)) = ((0 : Int), ((0 : Nat) : Int)) from rfl, h, sum_foldl]
  simp
def popN (a : Nat) : Nat := ((List.range 8).filter a.testBit).length
theorem oc_all : ((List.range 256).all fun a => (F_math_bits_OnesCount16 0 (a : Int) == some ((popN a : Nat) : Int))) = true := by kernel_rfl
theorem p_ones {a : Nat} (h : a < 256) : F_math_bits_OnesCount16 n (a : Int) = some ((popN a : Nat) : Int) := by
  have := List.all_eq_true.1 oc_all a (List.mem_range.2 h)
  exact eq_of_beq this
/-- the cells in the first rows -/
def inRows (B : List Cell) (i : Int) : Nat := (B.filter fun c => decide (c.Row < i)).length
theorem inRows_succ (B : List Cell) (r : Int) : inRows B (r + 1) = inRows B r + (B.filter fun c => decide (c.Row = r)).length := by
  unfold inRows
  induction B with
  | nil => rfl
  | cons a B ih =>
    rw [List.filter_cons, List.filter_cons, List.filter_cons]
    by_cases h1 : a.Row < r
    · rw [decide_eq_true h1, decide_eq_true (show a.Row < r + 1 by omega), decide_eq_false (show ¬ a.Row = r by omega)]
      simp only [if_true, Bool.false_eq_true, if_false, List.length_cons]; omega
    · by_cases h2 : a.Row = r
      · rw [decide_eq_false h1, decide_eq_true (show a.Row < r + 1 by omega), decide_eq_true h2]
        simp only [if_true, Bool.false_eq_true, if_false, List.length_cons]; omega
      · rw [decide_eq_false h1, decide_eq_false (show ¬ a.Row < r + 1 by omega), decide_eq_false h2]
        simp only [Bool.false_eq_true, if_false]; omega
theorem pop_row {B : List Cell} (hB : B.Nodup) {r : Nat} {a : Nat} (ha : a < 256) (h : ∀ c : Nat, a.testBit c = true ↔ ∃ x ∈ B, x.Row = (r : Nat) ∧ x.Col = (c : Nat)) (hc : ∀ c ∈ B, 0 ≤ c.Col ∧ c.Col < 8) : popN a = (B.filter fun c => decide (c.Row = (r : Int))).length := by
  unfold popN
  have n1 : (((List.range 8).filter a.testBit).map fun c : Nat => (⟨(r : Int), (c : Int)⟩ : Cell)).Nodup := nodup_map (fun x y h => by have := congrArg Cell.Col h; simp only at this; omega) (List.nodup_range.sublist List.filter_sublist)
  have n2 : (B.filter fun c => decide (c.Row = (r : Int))).Nodup := hB.sublist List.filter_sublist
  have l1 := nodup_le n1 (m := B.filter fun c => decide (c.Row = (r : Int))) fun x hx => by
    obtain ⟨c, hc', rfl⟩ := List.mem_map.1 hx
    obtain ⟨y, hy, e1, e2⟩ := (h c).1 (List.mem_filter.1 hc').2
    have : y = ⟨(r : Int), (c : Int)⟩ := cell_ext e1 e2
    exact List.mem_filter.2 ⟨this ▸ hy, by simp⟩
  have l2 := nodup_le n2 (m := ((List.range 8).filter a.testBit).map fun c : Nat => (⟨(r : Int), (c : Int)⟩ : Cell)) fun x hx => by
    obtain ⟨h1, h2⟩ := List.mem_filter.1 hx
    have h3 := of_decide_eq_true h2
    have h4 := hc x h1
    exact List.mem_map.2 ⟨x.Col.toNat, List.mem_filter.2 ⟨List.mem_range.2 (by omega), (h _).2 ⟨x, h1, h3, by omega⟩⟩, cell_ext (by simp only; omega) (by simp only; omega)⟩
  rw [List.length_map] at l1 l2
  omega
theorem p_Room (hn : 1000000 ≤ n) {s : Lap} (hv : VL s) (m : Nat) (hm : (m : Int) ≤ s.Length) : F_lays_Room n s (m : Int) = some (s.Width * m - inRows (s.Faults ++ s.Flaws) m, 0) := by
  have hL := hv.l
  have hW := hv.w
  have h1 := hv.fa.2.2
  have h2 := hv.fl.2.2
  have hc : ∀ l ∈ [s.Faults, s.Flaws], ∀ c ∈ l, (0 ≤ c.Row ∧ c.Row < 12) ∧ 0 ≤ c.Col ∧ c.Col < 8 := fun l hl c h => by
    simp only [List.mem_cons, List.not_mem_nil, or_false] at hl
    rcases hl with rfl | rfl
    · exact hv.cell (hv.fa.1 c h).1
    · exact hv.cell (hv.fl.1 c h).1
  obtain ⟨tk, e1, e2, hT, hbit⟩ := p_cellsOf hn [s.Faults, s.Flaws] (by simp) (fun l hl => by
    simp only [List.mem_cons, List.not_mem_nil, or_false] at hl
    rcases hl with rfl | rfl <;> omega) hc
  have hB : (s.Faults ++ s.Flaws).Nodup := (are_app.1 ⟨hv.fa, hv.fl⟩).1.2
  have hcB : ∀ c ∈ s.Faults ++ s.Flaws, 0 ≤ c.Col ∧ c.Col < 8 := fun c h => by
    rcases List.mem_append.1 h with h | h
    · exact (hc _ (by simp) c h).2
    · exact (hc s.Flaws (by simp) c h).2
  have hrow0 : inRows (s.Faults ++ s.Flaws) 0 = 0 := by
    unfold inRows
    rw [List.length_eq_zero_iff, List.filter_eq_nil_iff]
    intro c h
    have : 0 ≤ c.Row := by
      rcases List.mem_append.1 h with h | h
      · exact (hc _ (by simp) c h).1.1
      · exact (hc s.Flaws (by simp) c h).1.1
    simp; omega
  have hmW : 0 ≤ s.Width * m ∧ s.Width * m ≤ 8 * 12 := mul_in (by omega) (by omega) (by omega) (by omega)
  rw [F_lays_Room, p_LCheck0 hn hv, p_lwithin]
  simp only [Option.bind_some, e1, e2]
  rw [if_neg (by decide), decide_eq_true (show (0 : Int) ≤ m by omega), decide_eq_true hm]
  simp only [Bool.and_self, Bool.not_true, Bool.false_eq_true, if_false]
  have hslc : slc tk 0 (m : Int) = some (tk.take m) := by
    unfold slc; rw [if_pos ⟨by omega, by omega, by rw [hT.len]; omega⟩]; simp
  rw [hslc]
  simp only [Option.bind_some]
  have hlen : (tk.take m).length = m := by rw [List.length_take, hT.len]; omega
  have hle : ∀ i : Int, inRows (s.Faults ++ s.Flaws) i ≤ 40 := fun i => by
    unfold inRows
    have := List.length_filter_le (fun c : Cell => decide (c.Row < i)) (s.Faults ++ s.Flaws)
    rw [List.length_append] at this; omega
  have h := (loop_fold (step := F_lays_Room_s1 n (tk.take m)) (tk.take m) (fun i (z : Int) => (z, (i : Int))) (fun z x => z - (popN x.toNat : Nat)) (fun z => z) (fun i z => z = s.Width * m - inRows (s.Faults ++ s.Flaws) (i : Int)) (n := n) (s.Width * m) (by rw [show ((0 : Nat) : Int) = 0 from rfl, hrow0]; omega) (fun i x z hx hI => by
    have hi := (List.getElem?_eq_some_iff.1 hx).1
    have hx' : tk[i]? = some x := by
      rw [List.getElem?_take] at hx
      split at hx
      · exact hx
      · cases hx
    obtain ⟨a, ha, hab, hbits⟩ := hT.at (r := i) (by omega)
    rw [hx'] at ha
    obtain rfl : x = (a : Int) := Option.some.inj ha
    have hpop : popN a = ((s.Faults ++ s.Flaws).filter fun c => decide (c.Row = (i : Int))).length := pop_row hB hab (fun c => by
      rw [← hbits, hbit]
      constructor
      · rintro ⟨l, hl, x, hx, h⟩
        simp only [List.mem_cons, List.not_mem_nil, or_false] at hl
        rcases hl with rfl | rfl
        · exact ⟨x, List.mem_append_left _ hx, h⟩
        · exact ⟨x, List.mem_append_right _ hx, h⟩
      · rintro ⟨x, hx, h⟩
        rcases List.mem_append.1 hx with hx | hx
        · exact ⟨_, by simp, x, hx, h⟩
        · exact ⟨s.Flaws, by simp, x, hx, h⟩) hcB
    have hs := inRows_succ (s.Faults ++ s.Flaws) (i : Int)
    have h40 := hle ((i : Int) + 1)
    rw [F_lays_Room_s1, dlt, decide_eq_true hi, geti_nat, hx]
    simp only [if_true, Option.bind_some, p_ones hab, w64_nat (show i ≤ 4611686018427387904 by omega)]
    rw [Int.toNat_natCast, w64_id (by omega) (by omega)]
    exact ⟨rfl, by rw [show ((i + 1 : Nat) : Int) = (i : Int) + 1 by omega]; omega⟩) (fun z _ => by rw [F_lays_Room_s1, dlt]; simp) (by omega))
  rw [w64_id (by omega) (by omega), show ((s.Width * (m : Int)), (0 : Int)) = ((s.Width * (m : Int)), ((0 : Nat) : Int)) from rfl, h.1]
  have h3 := h.2
  rw [hlen] at h3
  rw [h3]
  rfl
/-- the room of a lay -/
theorem room_ok {s : Lap} (hv : VL s) {m : Nat} (hm : (m : Int) ≤ s.Length) {lay : List Place} (h : LayIn s.Width (m : Int) (allB s) s.Panels lay) : (areaP s.Panels : Int) ≤ s.Width * m - inRows (s.Faults ++ s.Flaws) m := by
  have hW := hv.w
  obtain ⟨W, hW'⟩ : ∃ W : Nat, s.Width = W := ⟨s.Width.toNat, by omega⟩
  rw [hW'] at h ⊢
  have hin : ∀ c ∈ s.Faults ++ s.Flaws, InC s c := (are_app.1 ⟨hv.fa, hv.fl⟩).1.1
  have := h.count ((s.Faults ++ s.Flaws).filter fun c => decide (c.Row < (m : Int))) hv.p ((are_app.1 ⟨hv.fa, hv.fl⟩).1.2.sublist List.filter_sublist) (fun c hc => by
    obtain ⟨h1, h2⟩ := List.mem_filter.1 hc
    have h3 := of_decide_eq_true h2
    obtain ⟨⟨k1, k2⟩, k3, k4⟩ := hin c h1
    exact ⟨(inL_all _ _).1 h1, grid_mem.2 ⟨⟨k1, h3⟩, k3, by omega⟩⟩)
  unfold inRows
  have e : (W : Int) * (m : Int) = ((m * W : Nat) : Int) := by rw [Int.natCast_mul, Int.mul_comm]
  rw [e]
  omega
end
end Go.Proofs.Ytflhjlgimihmgaa
end
section
set_option maxRecDepth 100000
set_option maxHeartbeats 40000000
namespace Go.Proofs.Ytflhjlgimihmgaa
open Go Go.RowKit Go.Dec
set_option linter.unusedVariables false
-- 6 ferrule/ferrulelaw03.LaysProof
def F_law03_LaysProof_s1 (n : Nat) (lay : List Place) : Int → Option (Int ⊕ (Bool ⊕ Unit))
 | i_151 => if decide (i_151 < (lay.length : Int)) = true then ((geti lay i_151).bind fun y156 => (F_ref03_IsPlace n y156).bind fun y161 => if (!y161) = true then ((F_law03_works n).bind fun y163 => some (Sum.inr (Sum.inl y163))) else (some (Sum.inl (w64 (i_151 + 1))))) else (some (Sum.inr (Sum.inr ())))
def F_law03_LaysProof (n : Nat) (s : Lap) (lay : List Place) : Option Bool :=
 (F_law03_ready n s).bind fun y2 => if ((!y2) || (decide (20 < (lay.length : Int)))) = true then ((F_law03_works n).bind fun y6 => some y6) else ((F_lays_Least n s).bind fun y7 => (F_lays_Hopes n s).bind fun y8 => (F_lays_Lay n s).bind fun y9 => (F_law03_isKnown n y7.2).bind fun y12 => (if (!y12) = true then (some true) else ((F_law03_isKnown n y8.2).bind fun y17 => some (!y17)) : Option Bool).bind fun p14 => (if (p14 || (y9.2 != y7.2)) = true then (some true) else ((if (y7.2 == 0) = true then ((if ((((y8.2 != 0) || (decide (y7.1 < y8.1))) || (decide (s.Length < y7.1))) || (decide (20 < (y9.1.length : Int)))) = true then (some true) else ((F_law03_rows n s y9.1).bind fun y72 => some (y72 != y7.1)) : Option Bool).bind fun p69 => some p69) else (some false) : Option Bool).bind fun p59 => some p59) : Option Bool).bind fun p45 => if p45 = true then (some false) else ((if (y7.2 == 0) = true then ((F_lays_Room n s y7.1).bind fun y85 => (if (y85.2 != 0) = true then (some true) else ((F_ref03_Area n s).bind fun y90 => some (decide (y85.1 < y90))) : Option Bool).bind fun p87 => if p87 = true then (some (Sum.inl false)) else (some (Sum.inr ()))) else (some (Sum.inr ()))).bind fun r83 => match r83 with | .inl o => some o | .inr _ => (loopO n (F_law03_LaysProof_s1 n lay) 0).bind fun r128 => match r128 with | .inl o => some o | .inr _ => (F_law03_rows n s lay).bind fun y164 => if ((decide (0 ≤ y164)) && ((y7.2 != 0) || (decide (y164 < y7.1)))) = true then (some false) else ((F_ref03_Rows n s s.Faults lay).bind fun y172 => (if ((decide (y172 < 0)) || ((y8.2 == 0) && (decide (y8.1 ≤ y172)))) = true then ((F_law03_works n).bind fun y183 => some y183) else (some false) : Option Bool).bind fun p180 => some p180)))
theorem c_law03_LaysProof (n : Nat) (H : Hp) (s : Lap) (s_v2 : Value) (hs_2 : SL H 2 R_Cell s_v2 s.Faults) (s_v3 : Value) (hs_3 : SL H 2 R_Cell s_v3 s.Flaws) (s_v4 : Value) (hs_4 : SL H 1 R_Panel s_v4 s.Panels) (lay : List Place) (lay_v0 : Value) (hlay_0 : SL H 3 R_Place lay_v0 lay) (y : Bool) (hF : F_law03_LaysProof n s lay = some y) : SC Try.prog 6 [.agg [.int .i64 s.Width, .int .i64 s.Length, s_v2, s_v3, s_v4].toArray, lay_v0] (.bool y) H := by
 rw [F_law03_LaysProof] at hF
 refine SC.of (N := 146) Try.func6 rfl rfl rfl fun w => ?_
 refine JC.seq (JC.region (by rfl) ?_)
 intro hQ
 refine JL.box (cs := [.int .i64 s.Width, .int .i64 s.Length, s_v2, s_v3, s_v4]) rfl .none rfl ?_
 intro b1
 refine JL.assign .none rfl ?_
 refine JL.done hQ (JQ.go (JC.seq (JC.seq (JC.region (by rfl) ?_))))
 intro hQ
 refine JL.loadOwn 0 az_25 rfl rfl rfl .none rfl ?_
 obtain ⟨y2, hy2, hF⟩ := bind_some hF
 refine JL.callS (c_law03_ready n H s s_v2 hs_2 s_v3 hs_3 s_v4 hs_4 y2 hy2) rfl en_10 .none rfl ?_
 refine JL.not rfl .none rfl ?_
 refine JL.move .none rfl ?_
 refine JL.cut 4 (fun f => f 1 = lay_v0 ∧ f 2 = .pointer (some ⟨b1, 0, none⟩) ∧ f 23 = .bool ((!y2) || (decide (20 < (lay.length : Int))))) ?_ ?_
 ·intro hJ3
  rcases bcases (!y2) with hc4 | hc4
  ·skip
   refine JL.skip (.bool rfl rfl rfl hc4) rfl ?_
   refine JL.skip (.bool rfl rfl rfl hc4) rfl ?_
   refine JL.skip (.bool rfl rfl rfl hc4) rfl ?_
   refine JL.pick_t (b := (!y2)) rfl hc4 .none rfl ?_
   exact hJ3 _ ⟨rfl, rfl, or_t hc4 rfl⟩
  ·skip
   refine JL.move (.some rfl rfl rfl hc4) rfl ?_
   refine JL.lenSL (R := R_Place) ul_54 hlay_0 (.some rfl rfl rfl hc4) rfl ?_
   refine JL.bin rfl rfl rfl (.some rfl rfl rfl hc4) rfl ?_
   refine JL.pick_f (b := (!y2)) rfl hc4 .none rfl ?_
   exact hJ3 _ ⟨rfl, rfl, or_f hc4 rfl⟩
 ·rintro f ⟨hf1, hf2, hf23⟩
  refine (JL.norm (i := 1) hf1 (JL.norm (i := 2) hf2 (JL.norm (i := 23) hf23 ?_)))
  refine JL.done hQ (JQ.go ?_)
  rcases ite_some hF with ⟨hc5, hF⟩ | ⟨hc5, hF⟩
  ·refine JC.cond_t (b := ((!y2) || (decide (20 < (lay.length : Int))))) rfl hc5 ?_
   refine JC.seq (JC.region (by rfl) ?_)
   intro hQ
   obtain ⟨y6, hy6, hF⟩ := bind_some hF
   refine JL.callS (c_law03_works n H y6 hy6) rfl en_11 .none rfl ?_
   refine JL.assign .none rfl ?_
   refine JL.done hQ (JQ.go (JC.ret (JQ.ret_then ?_)))
   obtain rfl := Option.some.inj hF
   exact JQ.outS rfl (.tmp .nil) rfl
  ·refine JC.cond_f (b := ((!y2) || (decide (20 < (lay.length : Int))))) rfl hc5 ?_
   refine JC.skip (JQ.go (JC.seq (JC.region (by rfl) ?_)))
   intro hQ
   refine JL.loadOwn 0 az_25 rfl rfl rfl .none rfl ?_
   obtain ⟨y7, hy7, hF⟩ := bind_some hF
   refine JL.callS (c_lays_Least n H s s_v2 hs_2 s_v3 hs_3 s_v4 hs_4 y7 hy7) rfl en_14 .none rfl ?_
   refine JL.move .none rfl ?_
   refine JL.extract rfl rfl .none rfl ?_
   refine JL.extract rfl rfl .none rfl ?_
   refine JL.assign .none rfl ?_
   refine JL.assign .none rfl ?_
   refine JL.done hQ (JQ.go (JC.seq (JC.region (by rfl) ?_)))
   intro hQ
   refine JL.loadOwn 0 az_25 rfl rfl rfl .none rfl ?_
   obtain ⟨y8, hy8, hF⟩ := bind_some hF
   refine JL.callS (c_lays_Hopes n H s s_v2 hs_2 s_v3 hs_3 s_v4 hs_4 y8 hy8) rfl en_17 .none rfl ?_
   refine JL.move .none rfl ?_
   refine JL.extract rfl rfl .none rfl ?_
   refine JL.extract rfl rfl .none rfl ?_
   refine JL.assign .none rfl ?_
   refine JL.assign .none rfl ?_
   refine JL.done hQ (JQ.go (JC.fresh (fun f => f 1 = lay_v0 ∧ f 2 = .pointer (some ⟨b1, 0, none⟩) ∧ f 5 = .int .i64 y7.1 ∧ f 6 = .int .i64 y7.2 ∧ f 7 = .int .i64 y8.1 ∧ f 8 = .int .i64 y8.2) ⟨rfl, rfl, rfl, rfl, rfl, rfl⟩ ?_))
   rintro f ⟨hf1, hf2, hf5, hf6, hf7, hf8⟩
   refine (JC.norm (i := 1) hf1 (JC.norm (i := 2) hf2 (JC.norm (i := 5) hf5 (JC.norm (i := 6) hf6 (JC.norm (i := 7) hf7 (JC.norm (i := 8) hf8 ?_))))))
   refine JC.seq (JC.region (by rfl) ?_)
   intro hQ
   refine JL.loadOwn 0 az_25 rfl rfl rfl .none rfl ?_
   obtain ⟨y9, hy9, hF⟩ := bind_some hF
   refine JL.callH (c_lays_Lay n H s s_v2 hs_2 s_v3 hs_3 s_v4 hs_4 y9 hy9) rfl en_20 .none rfl ?_
   rintro H10 vv11 hs10 ⟨y9a_v0, rfl, hy9a_0⟩
   refine JL.move .none rfl ?_
   refine JL.extract rfl rfl .none rfl ?_
   refine JL.extract rfl rfl .none rfl ?_
   refine JL.assign .none rfl ?_
   refine JL.assign .none rfl ?_
   refine JL.done hQ (JQ.go (JC.seq (JC.seq (JC.region (by rfl) ?_))))
   intro hQ
   refine JL.move .none rfl ?_
   obtain ⟨y12, hy12, hF⟩ := bind_some hF
   refine JL.callS (c_law03_isKnown n H10 y7.2 y12 hy12) rfl en_19 .none rfl ?_
   refine JL.not rfl .none rfl ?_
   refine JL.move .none rfl ?_
   obtain ⟨p14, hp14, hF⟩ := bind_some hF
   refine JL.cut 4 (fun f => f 1 = lay_v0 ∧ f 2 = .pointer (some ⟨b1, 0, none⟩) ∧ f 5 = .int .i64 y7.1 ∧ f 6 = .int .i64 y7.2 ∧ f 7 = .int .i64 y8.1 ∧ f 8 = .int .i64 y8.2 ∧ f 9 = y9a_v0 ∧ f 10 = .int .i64 y9.2 ∧ f 47 = .bool p14) ?_ ?_
   ·intro hJ15
    rcases ite_some hp14 with ⟨hc16, hF⟩ | ⟨hc16, hF⟩
    ·skip
     refine JL.skip (.bool rfl rfl rfl hc16) rfl ?_
     refine JL.skip (.bool rfl rfl rfl hc16) rfl ?_
     refine JL.skip (.bool rfl rfl rfl hc16) rfl ?_
     refine JL.pick_t (b := (!y12)) rfl hc16 .none rfl ?_
     obtain rfl := Option.some.inj hF
     exact hJ15 _ ⟨rfl, rfl, rfl, rfl, rfl, rfl, rfl, rfl, rfl⟩
    ·skip
     refine JL.move (.some rfl rfl rfl hc16) rfl ?_
     obtain ⟨y17, hy17, hF⟩ := bind_some hF
     refine JL.callS (c_law03_isKnown n H10 y8.2 y17 hy17) rfl en_19 (.some rfl rfl rfl hc16) rfl ?_
     refine JL.not rfl (.some rfl rfl rfl hc16) rfl ?_
     refine JL.pick_f (b := (!y12)) rfl hc16 .none rfl ?_
     obtain rfl := Option.some.inj hF
     exact hJ15 _ ⟨rfl, rfl, rfl, rfl, rfl, rfl, rfl, rfl, rfl⟩
   ·rintro f ⟨hf1, hf2, hf5, hf6, hf7, hf8, hf9, hf10, hf47⟩
    refine (JL.norm (i := 1) hf1 (JL.norm (i := 2) hf2 (JL.norm (i := 5) hf5 (JL.norm (i := 6) hf6 (JL.norm (i := 7) hf7 (JL.norm (i := 8) hf8 (JL.norm (i := 9) hf9 (JL.norm (i := 10) hf10 (JL.norm (i := 47) hf47 ?_)))))))))
    refine JL.move .none rfl ?_
    refine JL.cut 4 (fun f => f 1 = lay_v0 ∧ f 2 = .pointer (some ⟨b1, 0, none⟩) ∧ f 5 = .int .i64 y7.1 ∧ f 6 = .int .i64 y7.2 ∧ f 7 = .int .i64 y8.1 ∧ f 8 = .int .i64 y8.2 ∧ f 9 = y9a_v0 ∧ f 52 = .bool (p14 || (y9.2 != y7.2))) ?_ ?_
    ·intro hJ18
     rcases bcases p14 with hc19 | hc19
     ·skip
      refine JL.skip (.bool rfl rfl rfl hc19) rfl ?_
      refine JL.skip (.bool rfl rfl rfl hc19) rfl ?_
      refine JL.skip (.bool rfl rfl rfl hc19) rfl ?_
      refine JL.pick_t (b := p14) rfl hc19 .none rfl ?_
      exact hJ18 _ ⟨rfl, rfl, rfl, rfl, rfl, rfl, rfl, or_t hc19 rfl⟩
     ·skip
      refine JL.move (.some rfl rfl rfl hc19) rfl ?_
      refine JL.move (.some rfl rfl rfl hc19) rfl ?_
      refine JL.bin rfl rfl rfl (.some rfl rfl rfl hc19) rfl ?_
      refine JL.pick_f (b := p14) rfl hc19 .none rfl ?_
      exact hJ18 _ ⟨rfl, rfl, rfl, rfl, rfl, rfl, rfl, or_f hc19 rfl⟩
    ·rintro f ⟨hf1, hf2, hf5, hf6, hf7, hf8, hf9, hf52⟩
     refine (JL.norm (i := 1) hf1 (JL.norm (i := 2) hf2 (JL.norm (i := 5) hf5 (JL.norm (i := 6) hf6 (JL.norm (i := 7) hf7 (JL.norm (i := 8) hf8 (JL.norm (i := 9) hf9 (JL.norm (i := 52) hf52 ?_))))))))
     refine JL.move .none rfl ?_
     obtain ⟨p45, hp45, hF⟩ := bind_some hF
     refine JL.cut 30 (fun f => f 1 = lay_v0 ∧ f 2 = .pointer (some ⟨b1, 0, none⟩) ∧ f 5 = .int .i64 y7.1 ∧ f 6 = .int .i64 y7.2 ∧ f 7 = .int .i64 y8.1 ∧ f 8 = .int .i64 y8.2 ∧ f 83 = .bool p45) ?_ ?_
     ·intro hJ46
      rcases ite_some hp45 with ⟨hc47, hF⟩ | ⟨hc47, hF⟩
      ·skip
       refine JL.skip (.bool rfl rfl rfl hc47) rfl ?_
       refine JL.skip (.bool rfl rfl rfl hc47) rfl ?_
       refine JL.skip (.bool rfl rfl rfl hc47) rfl ?_
       refine JL.skip (.no rfl rfl rfl) rfl ?_
       refine JL.skip (.no rfl rfl rfl) rfl ?_
       refine JL.skip (.no rfl rfl rfl) rfl ?_
       refine JL.skip (.no rfl rfl rfl) rfl ?_
       refine JL.skip (.no rfl rfl rfl) rfl ?_
       refine JL.skip (.no rfl rfl rfl) rfl ?_
       refine JL.skip (.no rfl rfl rfl) rfl ?_
       refine JL.skip (.no rfl rfl rfl) rfl ?_
       refine JL.skip (.no rfl rfl rfl) rfl ?_
       refine JL.skip (.no rfl rfl rfl) rfl ?_
       refine JL.skip (.no rfl rfl rfl) rfl ?_
       refine JL.skip (.no rfl rfl rfl) rfl ?_
       refine JL.skip (.no rfl rfl rfl) rfl ?_
       refine JL.skip (.no rfl rfl rfl) rfl ?_
       refine JL.skip (.no rfl rfl rfl) rfl ?_
       refine JL.skip (.no rfl rfl rfl) rfl ?_
       refine JL.skip (.no rfl rfl rfl) rfl ?_
       refine JL.skip (.no rfl rfl rfl) rfl ?_
       refine JL.skip (.no rfl rfl rfl) rfl ?_
       refine JL.skip (.no rfl rfl rfl) rfl ?_
       refine JL.skip (.no rfl rfl rfl) rfl ?_
       refine JL.skip (.no rfl rfl rfl) rfl ?_
       refine JL.skip (.no rfl rfl rfl) rfl ?_
       refine JL.skip (.no rfl rfl rfl) rfl ?_
       refine JL.skip (.no rfl rfl rfl) rfl ?_
       refine JL.skip (.bool rfl rfl rfl hc47) rfl ?_
       refine JL.pick_t (b := (p14 || (y9.2 != y7.2))) rfl hc47 .none rfl ?_
       obtain rfl := Option.some.inj hF
       exact hJ46 _ ⟨rfl, rfl, rfl, rfl, rfl, rfl, rfl⟩
      ·skip
       refine JL.move (.some rfl rfl rfl hc47) rfl ?_
       refine JL.bin rfl rfl rfl (.some rfl rfl rfl hc47) rfl ?_
       refine JL.move (.some rfl rfl rfl hc47) rfl ?_
       obtain ⟨p59, hp59, hF⟩ := bind_some hF
       refine JL.cut 26 (fun f => f 1 = lay_v0 ∧ f 2 = .pointer (some ⟨b1, 0, none⟩) ∧ f 5 = .int .i64 y7.1 ∧ f 6 = .int .i64 y7.2 ∧ f 7 = .int .i64 y8.1 ∧ f 8 = .int .i64 y8.2 ∧ f 53 = .bool (p14 || (y9.2 != y7.2)) ∧ f 82 = .bool p59) ?_ ?_
       ·intro hJ60
        rcases ite_some hp59 with ⟨hc61, hF⟩ | ⟨hc61, hF⟩
        ·skip
         refine JL.move (.some rfl rfl rfl hc61) rfl ?_
         refine JL.bin rfl rfl rfl (.some rfl rfl rfl hc61) rfl ?_
         refine JL.move (.some rfl rfl rfl hc61) rfl ?_
         refine JL.cut 4 (fun f => f 1 = lay_v0 ∧ f 2 = .pointer (some ⟨b1, 0, none⟩) ∧ f 5 = .int .i64 y7.1 ∧ f 6 = .int .i64 y7.2 ∧ f 7 = .int .i64 y8.1 ∧ f 8 = .int .i64 y8.2 ∧ f 9 = y9a_v0 ∧ f 53 = .bool (p14 || (y9.2 != y7.2)) ∧ f 56 = .bool (y7.2 == 0) ∧ f 63 = .bool ((y8.2 != 0) || (decide (y7.1 < y8.1)))) ?_ ?_
         ·intro hJ62
          rcases bcases (y8.2 != 0) with hc63 | hc63
          ·skip
           refine JL.skip (.bool rfl rfl rfl hc63) rfl ?_
           refine JL.skip (.bool rfl rfl rfl hc63) rfl ?_
           refine JL.skip (.bool rfl rfl rfl hc63) rfl ?_
           refine JL.pick_t (b := (y8.2 != 0)) rfl hc63 (.some rfl rfl rfl hc61) rfl ?_
           exact hJ62 _ ⟨rfl, rfl, rfl, rfl, rfl, rfl, rfl, rfl, rfl, or_t hc63 rfl⟩
          ·skip
           refine JL.move (.some rfl rfl rfl hc63) rfl ?_
           refine JL.move (.some rfl rfl rfl hc63) rfl ?_
           refine JL.bin rfl rfl rfl (.some rfl rfl rfl hc63) rfl ?_
           refine JL.pick_f (b := (y8.2 != 0)) rfl hc63 (.some rfl rfl rfl hc61) rfl ?_
           exact hJ62 _ ⟨rfl, rfl, rfl, rfl, rfl, rfl, rfl, rfl, rfl, or_f hc63 rfl⟩
         ·rintro f ⟨hf1, hf2, hf5, hf6, hf7, hf8, hf9, hf53, hf56, hf63⟩
          refine (JL.norm (i := 1) hf1 (JL.norm (i := 2) hf2 (JL.norm (i := 5) hf5 (JL.norm (i := 6) hf6 (JL.norm (i := 7) hf7 (JL.norm (i := 8) hf8 (JL.norm (i := 9) hf9 (JL.norm (i := 53) hf53 (JL.norm (i := 56) hf56 (JL.norm (i := 63) hf63 ?_))))))))))
          refine JL.move (.some rfl rfl rfl hc61) rfl ?_
          refine JL.cut 5 (fun f => f 1 = lay_v0 ∧ f 2 = .pointer (some ⟨b1, 0, none⟩) ∧ f 5 = .int .i64 y7.1 ∧ f 6 = .int .i64 y7.2 ∧ f 7 = .int .i64 y8.1 ∧ f 8 = .int .i64 y8.2 ∧ f 9 = y9a_v0 ∧ f 53 = .bool (p14 || (y9.2 != y7.2)) ∧ f 56 = .bool (y7.2 == 0) ∧ f 69 = .bool (((y8.2 != 0) || (decide (y7.1 < y8.1))) || (decide (s.Length < y7.1)))) ?_ ?_
          ·intro hJ64
           rcases bcases ((y8.2 != 0) || (decide (y7.1 < y8.1))) with hc65 | hc65
           ·skip
            refine JL.skip (.bool rfl rfl rfl hc65) rfl ?_
            refine JL.skip (.bool rfl rfl rfl hc65) rfl ?_
            refine JL.skip (.bool rfl rfl rfl hc65) rfl ?_
            refine JL.skip (.bool rfl rfl rfl hc65) rfl ?_
            refine JL.pick_t (b := ((y8.2 != 0) || (decide (y7.1 < y8.1)))) rfl hc65 (.some rfl rfl rfl hc61) rfl ?_
            exact hJ64 _ ⟨rfl, rfl, rfl, rfl, rfl, rfl, rfl, rfl, rfl, or_t hc65 rfl⟩
           ·skip
            refine JL.move (.some rfl rfl rfl hc65) rfl ?_
            refine JL.fieldAddr fo_25_1 rfl (.some rfl rfl rfl hc65) rfl ?_
            refine JL.loadOwn 0 az_3 rfl rfl rfl (.some rfl rfl rfl hc65) rfl ?_
            refine JL.bin rfl rfl rfl (.some rfl rfl rfl hc65) rfl ?_
            refine JL.pick_f (b := ((y8.2 != 0) || (decide (y7.1 < y8.1)))) rfl hc65 (.some rfl rfl rfl hc61) rfl ?_
            exact hJ64 _ ⟨rfl, rfl, rfl, rfl, rfl, rfl, rfl, rfl, rfl, or_f hc65 rfl⟩
          ·rintro f ⟨hf1, hf2, hf5, hf6, hf7, hf8, hf9, hf53, hf56, hf69⟩
           refine (JL.norm (i := 1) hf1 (JL.norm (i := 2) hf2 (JL.norm (i := 5) hf5 (JL.norm (i := 6) hf6 (JL.norm (i := 7) hf7 (JL.norm (i := 8) hf8 (JL.norm (i := 9) hf9 (JL.norm (i := 53) hf53 (JL.norm (i := 56) hf56 (JL.norm (i := 69) hf69 ?_))))))))))
           refine JL.move (.some rfl rfl rfl hc61) rfl ?_
           refine JL.cut 4 (fun f => f 1 = lay_v0 ∧ f 2 = .pointer (some ⟨b1, 0, none⟩) ∧ f 5 = .int .i64 y7.1 ∧ f 6 = .int .i64 y7.2 ∧ f 7 = .int .i64 y8.1 ∧ f 8 = .int .i64 y8.2 ∧ f 9 = y9a_v0 ∧ f 53 = .bool (p14 || (y9.2 != y7.2)) ∧ f 56 = .bool (y7.2 == 0) ∧ f 74 = .bool ((((y8.2 != 0) || (decide (y7.1 < y8.1))) || (decide (s.Length < y7.1))) || (decide (20 < (y9.1.length : Int))))) ?_ ?_
           ·intro hJ66
            rcases bcases (((y8.2 != 0) || (decide (y7.1 < y8.1))) || (decide (s.Length < y7.1))) with hc67 | hc67
            ·skip
             refine JL.skip (.bool rfl rfl rfl hc67) rfl ?_
             refine JL.skip (.bool rfl rfl rfl hc67) rfl ?_
             refine JL.skip (.bool rfl rfl rfl hc67) rfl ?_
             refine JL.pick_t (b := (((y8.2 != 0) || (decide (y7.1 < y8.1))) || (decide (s.Length < y7.1)))) rfl hc67 (.some rfl rfl rfl hc61) rfl ?_
             exact hJ66 _ ⟨rfl, rfl, rfl, rfl, rfl, rfl, rfl, rfl, rfl, or_t hc67 rfl⟩
            ·skip
             refine JL.move (.some rfl rfl rfl hc67) rfl ?_
             refine JL.lenSL (R := R_Place) ul_54 hy9a_0 (.some rfl rfl rfl hc67) rfl ?_
             refine JL.bin rfl rfl rfl (.some rfl rfl rfl hc67) rfl ?_
             refine JL.pick_f (b := (((y8.2 != 0) || (decide (y7.1 < y8.1))) || (decide (s.Length < y7.1)))) rfl hc67 (.some rfl rfl rfl hc61) rfl ?_
             exact hJ66 _ ⟨rfl, rfl, rfl, rfl, rfl, rfl, rfl, rfl, rfl, or_f hc67 rfl⟩
           ·rintro f ⟨hf1, hf2, hf5, hf6, hf7, hf8, hf9, hf53, hf56, hf74⟩
            refine (JL.norm (i := 1) hf1 (JL.norm (i := 2) hf2 (JL.norm (i := 5) hf5 (JL.norm (i := 6) hf6 (JL.norm (i := 7) hf7 (JL.norm (i := 8) hf8 (JL.norm (i := 9) hf9 (JL.norm (i := 53) hf53 (JL.norm (i := 56) hf56 (JL.norm (i := 74) hf74 ?_))))))))))
            refine JL.move (.some rfl rfl rfl hc61) rfl ?_
            obtain ⟨p69, hp69, hF⟩ := bind_some hF
            refine JL.cut 6 (fun f => f 1 = lay_v0 ∧ f 2 = .pointer (some ⟨b1, 0, none⟩) ∧ f 5 = .int .i64 y7.1 ∧ f 6 = .int .i64 y7.2 ∧ f 7 = .int .i64 y8.1 ∧ f 8 = .int .i64 y8.2 ∧ f 53 = .bool (p14 || (y9.2 != y7.2)) ∧ f 56 = .bool (y7.2 == 0) ∧ f 81 = .bool p69) ?_ ?_
            ·intro hJ70
             rcases ite_some hp69 with ⟨hc71, hF⟩ | ⟨hc71, hF⟩
             ·skip
              refine JL.skip (.bool rfl rfl rfl hc71) rfl ?_
              refine JL.skip (.bool rfl rfl rfl hc71) rfl ?_
              refine JL.skip (.bool rfl rfl rfl hc71) rfl ?_
              refine JL.skip (.bool rfl rfl rfl hc71) rfl ?_
              refine JL.skip (.bool rfl rfl rfl hc71) rfl ?_
              refine JL.pick_t (b := ((((y8.2 != 0) || (decide (y7.1 < y8.1))) || (decide (s.Length < y7.1))) || (decide (20 < (y9.1.length : Int))))) rfl hc71 (.some rfl rfl rfl hc61) rfl ?_
              obtain rfl := Option.some.inj hF
              exact hJ70 _ ⟨rfl, rfl, rfl, rfl, rfl, rfl, rfl, rfl, rfl⟩
             ·skip
              refine JL.loadOwn 0 az_25 rfl rfl rfl (.some rfl rfl rfl hc71) rfl ?_
              refine JL.move (.some rfl rfl rfl hc71) rfl ?_
              obtain ⟨y72, hy72, hF⟩ := bind_some hF
              refine JL.callS (c_law03_rows n H10 s s_v2 (SL.mono R_Cell_mono hs10 hs_2) s_v3 (SL.mono R_Cell_mono hs10 hs_3) s_v4 (SL.mono R_Panel_mono hs10 hs_4) y9.1 y9a_v0 hy9a_0 y72 hy72) rfl en_21 (.some rfl rfl rfl hc71) rfl ?_
              refine JL.move (.some rfl rfl rfl hc71) rfl ?_
              refine JL.bin rfl rfl rfl (.some rfl rfl rfl hc71) rfl ?_
              refine JL.pick_f (b := ((((y8.2 != 0) || (decide (y7.1 < y8.1))) || (decide (s.Length < y7.1))) || (decide (20 < (y9.1.length : Int))))) rfl hc71 (.some rfl rfl rfl hc61) rfl ?_
              obtain rfl := Option.some.inj hF
              exact hJ70 _ ⟨rfl, rfl, rfl, rfl, rfl, rfl, rfl, rfl, rfl⟩
            ·rintro f ⟨hf1, hf2, hf5, hf6, hf7, hf8, hf53, hf56, hf81⟩
             refine (JL.norm (i := 1) hf1 (JL.norm (i := 2) hf2 (JL.norm (i := 5) hf5 (JL.norm (i := 6) hf6 (JL.norm (i := 7) hf7 (JL.norm (i := 8) hf8 (JL.norm (i := 53) hf53 (JL.norm (i := 56) hf56 (JL.norm (i := 81) hf81 ?_)))))))))
             refine JL.pick_t (b := (y7.2 == 0)) rfl hc61 (.some rfl rfl rfl hc47) rfl ?_
             obtain rfl := Option.some.inj hF
             exact hJ60 _ ⟨rfl, rfl, rfl, rfl, rfl, rfl, rfl, rfl⟩
        ·skip
         refine JL.skip (.bool rfl rfl rfl hc61) rfl ?_
         refine JL.skip (.bool rfl rfl rfl hc61) rfl ?_
         refine JL.skip (.bool rfl rfl rfl hc61) rfl ?_
         refine JL.skip (.no rfl rfl rfl) rfl ?_
         refine JL.skip (.no rfl rfl rfl) rfl ?_
         refine JL.skip (.no rfl rfl rfl) rfl ?_
         refine JL.skip (.bool rfl rfl rfl hc61) rfl ?_
         refine JL.skip (.bool rfl rfl rfl hc61) rfl ?_
         refine JL.skip (.no rfl rfl rfl) rfl ?_
         refine JL.skip (.no rfl rfl rfl) rfl ?_
         refine JL.skip (.no rfl rfl rfl) rfl ?_
         refine JL.skip (.no rfl rfl rfl) rfl ?_
         refine JL.skip (.bool rfl rfl rfl hc61) rfl ?_
         refine JL.skip (.bool rfl rfl rfl hc61) rfl ?_
         refine JL.skip (.no rfl rfl rfl) rfl ?_
         refine JL.skip (.no rfl rfl rfl) rfl ?_
         refine JL.skip (.no rfl rfl rfl) rfl ?_
         refine JL.skip (.bool rfl rfl rfl hc61) rfl ?_
         refine JL.skip (.bool rfl rfl rfl hc61) rfl ?_
         refine JL.skip (.no rfl rfl rfl) rfl ?_
         refine JL.skip (.no rfl rfl rfl) rfl ?_
         refine JL.skip (.no rfl rfl rfl) rfl ?_
         refine JL.skip (.no rfl rfl rfl) rfl ?_
         refine JL.skip (.no rfl rfl rfl) rfl ?_
         refine JL.skip (.bool rfl rfl rfl hc61) rfl ?_
         refine JL.pick_f (b := (y7.2 == 0)) rfl hc61 (.some rfl rfl rfl hc47) rfl ?_
         obtain rfl := Option.some.inj hF
         exact hJ60 _ ⟨rfl, rfl, rfl, rfl, rfl, rfl, rfl, rfl⟩
       ·rintro f ⟨hf1, hf2, hf5, hf6, hf7, hf8, hf53, hf82⟩
        refine (JL.norm (i := 1) hf1 (JL.norm (i := 2) hf2 (JL.norm (i := 5) hf5 (JL.norm (i := 6) hf6 (JL.norm (i := 7) hf7 (JL.norm (i := 8) hf8 (JL.norm (i := 53) hf53 (JL.norm (i := 82) hf82 ?_))))))))
        refine JL.pick_f (b := (p14 || (y9.2 != y7.2))) rfl hc47 .none rfl ?_
        obtain rfl := Option.some.inj hF
        exact hJ46 _ ⟨rfl, rfl, rfl, rfl, rfl, rfl, rfl⟩
     ·rintro f ⟨hf1, hf2, hf5, hf6, hf7, hf8, hf83⟩
      refine (JL.norm (i := 1) hf1 (JL.norm (i := 2) hf2 (JL.norm (i := 5) hf5 (JL.norm (i := 6) hf6 (JL.norm (i := 7) hf7 (JL.norm (i := 8) hf8 (JL.norm (i := 83) hf83 ?_)))))))
      refine JL.done hQ (JQ.go ?_)
      rcases ite_some hF with ⟨hc73, hF⟩ | ⟨hc73, hF⟩
      ·refine JC.cond_t (b := p45) rfl hc73 ?_
       refine JC.seq (JC.region (by rfl) ?_)
       intro hQ
       refine JL.assign .none rfl ?_
       refine JL.done hQ (JQ.go (JC.ret (JQ.ret_then ?_)))
       obtain rfl := Option.some.inj hF
       exact JQ.outS rfl (.tmp .nil) rfl
      ·refine JC.cond_f (b := p45) rfl hc73 ?_
       refine JC.skip (JQ.go (JC.seq (JC.seq (JC.region (by rfl) ?_))))
       intro hQ
       refine JL.move .none rfl ?_
       refine JL.bin rfl rfl rfl .none rfl ?_
       refine JL.done hQ (JQ.go ?_)
       obtain ⟨r83, hlr83, hKr83⟩ := bind_some hF
       refine JC.join (fun (_ : Unit) H82 f bs gs => f 1 = lay_v0 ∧ f 2 = .pointer (some ⟨b1, 0, none⟩) ∧ f 5 = .int .i64 y7.1 ∧ f 6 = .int .i64 y7.2 ∧ f 7 = .int .i64 y8.1 ∧ f 8 = .int .i64 y8.2 ∧ bs = [(b1, .cells [.int .i64 s.Width, .int .i64 s.Length, s_v2, s_v3, s_v4].toArray 25)] ∧ gs = [] ∧ HSub H10 H82 ∧ Sum.inr () = r83) ?_ ?_
       ·have hF := hlr83
        rcases ite_some hF with ⟨hc84, hF⟩ | ⟨hc84, hF⟩
        ·refine JC.cond_t (b := (y7.2 == 0)) rfl hc84 ?_
         refine JC.seq (JC.region (by rfl) ?_)
         intro hQ
         refine JL.loadOwn 0 az_25 rfl rfl rfl .none rfl ?_
         refine JL.move .none rfl ?_
         obtain ⟨y85, hy85, hF⟩ := bind_some hF
         refine JL.callS (c_lays_Room n H10 s s_v2 (SL.mono R_Cell_mono hs10 hs_2) s_v3 (SL.mono R_Cell_mono hs10 hs_3) s_v4 (SL.mono R_Panel_mono hs10 hs_4) y7.1 y85 hy85) rfl en_22 .none rfl ?_
         refine JL.move .none rfl ?_
         refine JL.extract rfl rfl .none rfl ?_
         refine JL.extract rfl rfl .none rfl ?_
         refine JL.assign .none rfl ?_
         refine JL.assign .none rfl ?_
         refine JL.done hQ (JQ.go (JC.fresh (fun f => f 1 = lay_v0 ∧ f 2 = .pointer (some ⟨b1, 0, none⟩) ∧ f 5 = .int .i64 y7.1 ∧ f 6 = .int .i64 y7.2 ∧ f 7 = .int .i64 y8.1 ∧ f 8 = .int .i64 y8.2 ∧ f 11 = .int .i64 y85.1 ∧ f 12 = .int .i64 y85.2) ⟨rfl, rfl, rfl, rfl, rfl, rfl, rfl, rfl⟩ ?_))
         rintro f ⟨hf1, hf2, hf5, hf6, hf7, hf8, hf11, hf12⟩
         refine (JC.norm (i := 1) hf1 (JC.norm (i := 2) hf2 (JC.norm (i := 5) hf5 (JC.norm (i := 6) hf6 (JC.norm (i := 7) hf7 (JC.norm (i := 8) hf8 (JC.norm (i := 11) hf11 (JC.norm (i := 12) hf12 ?_))))))))
         refine JC.seq (JC.region (by rfl) ?_)
         intro hQ
         refine JL.move .none rfl ?_
         refine JL.bin rfl rfl rfl .none rfl ?_
         refine JL.move .none rfl ?_
         obtain ⟨p87, hp87, hF⟩ := bind_some hF
         refine JL.cut 5 (fun f => f 1 = lay_v0 ∧ f 2 = .pointer (some ⟨b1, 0, none⟩) ∧ f 5 = .int .i64 y7.1 ∧ f 6 = .int .i64 y7.2 ∧ f 7 = .int .i64 y8.1 ∧ f 8 = .int .i64 y8.2 ∧ f 99 = .bool p87) ?_ ?_
         ·intro hJ88
          rcases ite_some hp87 with ⟨hc89, hF⟩ | ⟨hc89, hF⟩
          ·skip
           refine JL.skip (.bool rfl rfl rfl hc89) rfl ?_
           refine JL.skip (.bool rfl rfl rfl hc89) rfl ?_
           refine JL.skip (.bool rfl rfl rfl hc89) rfl ?_
           refine JL.skip (.bool rfl rfl rfl hc89) rfl ?_
           refine JL.pick_t (b := (y85.2 != 0)) rfl hc89 .none rfl ?_
           obtain rfl := Option.some.inj hF
           exact hJ88 _ ⟨rfl, rfl, rfl, rfl, rfl, rfl, rfl⟩
          ·skip
           refine JL.move (.some rfl rfl rfl hc89) rfl ?_
           refine JL.loadOwn 0 az_25 rfl rfl rfl (.some rfl rfl rfl hc89) rfl ?_
           obtain ⟨y90, hy90, hF⟩ := bind_some hF
           refine JL.callS (c_ref03_Area n H10 s s_v2 (SL.mono R_Cell_mono hs10 hs_2) s_v3 (SL.mono R_Cell_mono hs10 hs_3) s_v4 (SL.mono R_Panel_mono hs10 hs_4) y90 hy90) rfl en_23 (.some rfl rfl rfl hc89) rfl ?_
           refine JL.bin rfl rfl rfl (.some rfl rfl rfl hc89) rfl ?_
           refine JL.pick_f (b := (y85.2 != 0)) rfl hc89 .none rfl ?_
           obtain rfl := Option.some.inj hF
           exact hJ88 _ ⟨rfl, rfl, rfl, rfl, rfl, rfl, rfl⟩
         ·rintro f ⟨hf1, hf2, hf5, hf6, hf7, hf8, hf99⟩
          refine (JL.norm (i := 1) hf1 (JL.norm (i := 2) hf2 (JL.norm (i := 5) hf5 (JL.norm (i := 6) hf6 (JL.norm (i := 7) hf7 (JL.norm (i := 8) hf8 (JL.norm (i := 99) hf99 ?_)))))))
          refine JL.done hQ (JQ.go ?_)
          rcases ite_some hF with ⟨hc91, hF⟩ | ⟨hc91, hF⟩
          ·refine JC.cond_t (b := p87) rfl hc91 ?_
           refine JC.seq (JC.region (by rfl) ?_)
           intro hQ
           refine JL.assign .none rfl ?_
           refine JL.done hQ (JQ.go (JC.ret (JQ.ret_join (JQ.ret_then ?_))))
           obtain rfl := Option.some.inj hF
           have hF := hKr83
           try dsimp only at hF
           obtain rfl := Option.some.inj hF
           exact JQ.outS rfl (.tmp .nil) rfl
          ·refine JC.cond_f (b := p87) rfl hc91 ?_
           refine JC.skip ?_
           obtain rfl := Option.some.inj hF
           exact JQ.join () ⟨rfl, rfl, rfl, rfl, rfl, rfl, rfl, rfl, (HSub.refl _), rfl⟩
        ·refine JC.cond_f (b := (y7.2 == 0)) rfl hc84 ?_
         refine JC.skip ?_
         obtain rfl := Option.some.inj hF
         exact JQ.join () ⟨rfl, rfl, rfl, rfl, rfl, rfl, rfl, rfl, (HSub.refl _), rfl⟩
       ·rintro _ H82 f bs gs ⟨hf1, hf2, hf5, hf6, hf7, hf8, rfl, rfl, hs82, rfl⟩
        have hF := hKr83
        try dsimp only at hF
        refine (JQ.norm (i := 1) hf1 (JQ.norm (i := 2) hf2 (JQ.norm (i := 5) hf5 (JQ.norm (i := 6) hf6 (JQ.norm (i := 7) hf7 (JQ.norm (i := 8) hf8 ?_))))))
        refine JQ.go (JC.seq (JC.seq (JC.region (by rfl) ?_)))
        intro hQ
        refine JL.assign .none rfl ?_
        refine JL.done hQ (JQ.go ?_)
        obtain ⟨r128, hlr128, hKr128⟩ := bind_some hF
        refine JC.join (fun (_ : Unit) H127 f bs gs => f 1 = lay_v0 ∧ f 2 = .pointer (some ⟨b1, 0, none⟩) ∧ f 5 = .int .i64 y7.1 ∧ f 6 = .int .i64 y7.2 ∧ f 7 = .int .i64 y8.1 ∧ f 8 = .int .i64 y8.2 ∧ bs = [(b1, .cells [.int .i64 s.Width, .int .i64 s.Length, s_v2, s_v3, s_v4].toArray 25)] ∧ gs = [] ∧ HSub H82 H127 ∧ Sum.inr () = r128) ?_ ?_
        ·skip
         refine JC.block (JC.loop hlr128 (fun (i_151 : Int) H152 f bs gs => f 1 = lay_v0 ∧ f 2 = .pointer (some ⟨b1, 0, none⟩) ∧ f 5 = .int .i64 y7.1 ∧ f 6 = .int .i64 y7.2 ∧ f 7 = .int .i64 y8.1 ∧ f 8 = .int .i64 y8.2 ∧ f 13 = .int .i64 i_151 ∧ bs = [(b1, .cells [.int .i64 s.Width, .int .i64 s.Length, s_v2, s_v3, s_v4].toArray 25)] ∧ gs = [] ∧ HSub H82 H152) ⟨rfl, rfl, rfl, rfl, rfl, rfl, rfl, rfl, rfl, (HSub.refl _)⟩ ?_)
         rintro i_151 x154 H152 f bs gs ⟨hf1, hf2, hf5, hf6, hf7, hf8, hf13, rfl, rfl, hs152⟩ hF hr153
         rw [F_law03_LaysProof_s1] at hF
         refine (JC.norm (i := 1) hf1 (JC.norm (i := 2) hf2 (JC.norm (i := 5) hf5 (JC.norm (i := 6) hf6 (JC.norm (i := 7) hf7 (JC.norm (i := 8) hf8 (JC.norm (i := 13) hf13 ?_)))))))
         refine JC.seq (JC.seq (JC.region (by rfl) ?_))
         intro hQ
         refine JL.move .none rfl ?_
         refine JL.move .none rfl ?_
         refine JL.lenSL (R := R_Place) ul_54 (SL.mono R_Place_mono (HSub.trans hs10 (HSub.trans hs82 hs152)) hlay_0) .none rfl ?_
         refine JL.bin rfl rfl rfl .none rfl ?_
         refine JL.done hQ (JQ.go ?_)
         rcases ite_some hF with ⟨hc155, hF⟩ | ⟨hc155, hF⟩
         ·refine JC.cond_t (b := decide (i_151 < (lay.length : Int))) rfl hc155 ?_
          refine JC.skip (JQ.go (JC.seq (JC.block (JC.seq (JC.region (by rfl) ?_)))))
          intro hQ
          refine JL.move .none rfl ?_
          refine JL.move .none rfl ?_
          obtain ⟨y156, hy156, hF⟩ := bind_some hF
          refine JL.indexSL (R := R_Place) sl_54 (SL.mono R_Place_mono (HSub.trans hs10 (HSub.trans hs82 hs152)) hlay_0) rfl hy156 .none rfl ?_
          rintro b157 o158 cs159 hc160 - rfl
          refine JL.loadH 0 az_62 rfl hc160 rfl .none rfl ?_
          obtain ⟨y161, hy161, hF⟩ := bind_some hF
          refine JL.callS (c_ref03_IsPlace n H152 y156 y161 hy161) rfl en_24 .none rfl ?_
          refine JL.not rfl .none rfl ?_
          refine JL.done hQ (JQ.go (JC.fresh (fun f => f 1 = lay_v0 ∧ f 2 = .pointer (some ⟨b1, 0, none⟩) ∧ f 5 = .int .i64 y7.1 ∧ f 6 = .int .i64 y7.2 ∧ f 7 = .int .i64 y8.1 ∧ f 8 = .int .i64 y8.2 ∧ f 13 = .int .i64 i_151 ∧ f 111 = .bool (!y161)) ⟨rfl, rfl, rfl, rfl, rfl, rfl, rfl, rfl⟩ ?_))
          rintro f ⟨hf1, hf2, hf5, hf6, hf7, hf8, hf13, hf111⟩
          refine (JC.norm (i := 1) hf1 (JC.norm (i := 2) hf2 (JC.norm (i := 5) hf5 (JC.norm (i := 6) hf6 (JC.norm (i := 7) hf7 (JC.norm (i := 8) hf8 (JC.norm (i := 13) hf13 (JC.norm (i := 111) hf111 ?_))))))))
          rcases ite_some hF with ⟨hc162, hF⟩ | ⟨hc162, hF⟩
          ·refine JC.cond_t (b := (!y161)) rfl hc162 ?_
           refine JC.seq (JC.region (by rfl) ?_)
           intro hQ
           obtain ⟨y163, hy163, hF⟩ := bind_some hF
           refine JL.callS (c_law03_works n H152 y163 hy163) rfl en_11 .none rfl ?_
           refine JL.assign .none rfl ?_
           refine JL.done hQ (JQ.go (JC.ret (JQ.ret_block (JQ.ret_then (JQ.ret_then (JQ.ret_block (JQ.ret_join (JQ.ret_then ?_))))))))
           obtain rfl := Option.some.inj hF
           have ehr153 := hr153 _ rfl
           subst ehr153
           have hF := hKr128
           try dsimp only at hF
           obtain rfl := Option.some.inj hF
           exact JQ.outS rfl (.tmp .nil) rfl
          ·refine JC.cond_f (b := (!y161)) rfl hc162 ?_
           refine JC.skip (JQ.normal_block (JQ.go (JC.region (by rfl) ?_)))
           intro hQ
           refine JL.move .none rfl ?_
           refine JL.bin rfl rfl rfl .none rfl ?_
           refine JL.assign .none rfl ?_
           refine JL.done hQ ?_
           obtain rfl := Option.some.inj hF
           exact JQ.next rfl ⟨rfl, rfl, rfl, rfl, rfl, rfl, rfl, rfl, rfl, hs152⟩
         ·refine JC.cond_f (b := decide (i_151 < (lay.length : Int))) rfl hc155 ?_
          refine JC.exit (JQ.exit_then (JQ.exit_then (JQ.exit_block ?_)))
          obtain rfl := Option.some.inj hF
          have ehr153 := hr153 _ rfl
          subst ehr153
          exact JQ.join () ⟨rfl, rfl, rfl, rfl, rfl, rfl, rfl, rfl, hs152, rfl⟩
        ·rintro _ H127 f bs gs ⟨hf1, hf2, hf5, hf6, hf7, hf8, rfl, rfl, hs127, rfl⟩
         have hF := hKr128
         try dsimp only at hF
         refine (JQ.norm (i := 1) hf1 (JQ.norm (i := 2) hf2 (JQ.norm (i := 5) hf5 (JQ.norm (i := 6) hf6 (JQ.norm (i := 7) hf7 (JQ.norm (i := 8) hf8 ?_))))))
         refine JQ.go (JC.seq (JC.seq (JC.region (by rfl) ?_)))
         intro hQ
         refine JL.loadOwn 0 az_25 rfl rfl rfl .none rfl ?_
         refine JL.move .none rfl ?_
         obtain ⟨y164, hy164, hF⟩ := bind_some hF
         refine JL.callS (c_law03_rows n H127 s s_v2 (SL.mono R_Cell_mono (HSub.trans hs10 (HSub.trans hs82 hs127)) hs_2) s_v3 (SL.mono R_Cell_mono (HSub.trans hs10 (HSub.trans hs82 hs127)) hs_3) s_v4 (SL.mono R_Panel_mono (HSub.trans hs10 (HSub.trans hs82 hs127)) hs_4) lay lay_v0 (SL.mono R_Place_mono (HSub.trans hs10 (HSub.trans hs82 hs127)) hlay_0) y164 hy164) rfl en_21 .none rfl ?_
         refine JL.assign .none rfl ?_
         refine JL.done hQ (JQ.go (JC.seq (JC.region (by rfl) ?_)))
         intro hQ
         refine JL.move .none rfl ?_
         refine JL.bin rfl rfl rfl .none rfl ?_
         refine JL.move .none rfl ?_
         refine JL.cut 8 (fun f => f 1 = lay_v0 ∧ f 2 = .pointer (some ⟨b1, 0, none⟩) ∧ f 7 = .int .i64 y8.1 ∧ f 8 = .int .i64 y8.2 ∧ f 126 = .bool ((decide (0 ≤ y164)) && ((y7.2 != 0) || (decide (y164 < y7.1))))) ?_ ?_
         ·intro hJ167
          rcases bcases (decide (0 ≤ y164)) with hc168 | hc168
          ·skip
           refine JL.move (.some rfl rfl rfl hc168) rfl ?_
           refine JL.bin rfl rfl rfl (.some rfl rfl rfl hc168) rfl ?_
           refine JL.move (.some rfl rfl rfl hc168) rfl ?_
           refine JL.cut 4 (fun f => f 1 = lay_v0 ∧ f 2 = .pointer (some ⟨b1, 0, none⟩) ∧ f 7 = .int .i64 y8.1 ∧ f 8 = .int .i64 y8.2 ∧ f 118 = .bool (decide (0 ≤ y164)) ∧ f 125 = .bool ((y7.2 != 0) || (decide (y164 < y7.1)))) ?_ ?_
           ·intro hJ169
            rcases bcases (y7.2 != 0) with hc170 | hc170
            ·skip
             refine JL.skip (.bool rfl rfl rfl hc170) rfl ?_
             refine JL.skip (.bool rfl rfl rfl hc170) rfl ?_
             refine JL.skip (.bool rfl rfl rfl hc170) rfl ?_
             refine JL.pick_t (b := (y7.2 != 0)) rfl hc170 (.some rfl rfl rfl hc168) rfl ?_
             exact hJ169 _ ⟨rfl, rfl, rfl, rfl, rfl, or_t hc170 rfl⟩
            ·skip
             refine JL.move (.some rfl rfl rfl hc170) rfl ?_
             refine JL.move (.some rfl rfl rfl hc170) rfl ?_
             refine JL.bin rfl rfl rfl (.some rfl rfl rfl hc170) rfl ?_
             refine JL.pick_f (b := (y7.2 != 0)) rfl hc170 (.some rfl rfl rfl hc168) rfl ?_
             exact hJ169 _ ⟨rfl, rfl, rfl, rfl, rfl, or_f hc170 rfl⟩
           ·rintro f ⟨hf1, hf2, hf7, hf8, hf118, hf125⟩
            refine (JL.norm (i := 1) hf1 (JL.norm (i := 2) hf2 (JL.norm (i := 7) hf7 (JL.norm (i := 8) hf8 (JL.norm (i := 118) hf118 (JL.norm (i := 125) hf125 ?_))))))
            refine JL.pick_t (b := decide (0 ≤ y164)) rfl hc168 .none rfl ?_
            exact hJ167 _ ⟨rfl, rfl, rfl, rfl, and_t hc168 rfl⟩
          ·skip
           refine JL.skip (.bool rfl rfl rfl hc168) rfl ?_
           refine JL.skip (.bool rfl rfl rfl hc168) rfl ?_
           refine JL.skip (.bool rfl rfl rfl hc168) rfl ?_
           refine JL.skip (.no rfl rfl rfl) rfl ?_
           refine JL.skip (.no rfl rfl rfl) rfl ?_
           refine JL.skip (.no rfl rfl rfl) rfl ?_
           refine JL.skip (.bool rfl rfl rfl hc168) rfl ?_
           refine JL.pick_f (b := decide (0 ≤ y164)) rfl hc168 .none rfl ?_
           exact hJ167 _ ⟨rfl, rfl, rfl, rfl, and_f hc168 rfl⟩
         ·rintro f ⟨hf1, hf2, hf7, hf8, hf126⟩
          refine (JL.norm (i := 1) hf1 (JL.norm (i := 2) hf2 (JL.norm (i := 7) hf7 (JL.norm (i := 8) hf8 (JL.norm (i := 126) hf126 ?_)))))
          refine JL.done hQ (JQ.go ?_)
          rcases ite_some hF with ⟨hc171, hF⟩ | ⟨hc171, hF⟩
          ·refine JC.cond_t (b := ((decide (0 ≤ y164)) && ((y7.2 != 0) || (decide (y164 < y7.1))))) rfl hc171 ?_
           refine JC.seq (JC.region (by rfl) ?_)
           intro hQ
           refine JL.assign .none rfl ?_
           refine JL.done hQ (JQ.go (JC.ret (JQ.ret_then ?_)))
           obtain rfl := Option.some.inj hF
           exact JQ.outS rfl (.tmp .nil) rfl
          ·refine JC.cond_f (b := ((decide (0 ≤ y164)) && ((y7.2 != 0) || (decide (y164 < y7.1))))) rfl hc171 ?_
           refine JC.skip (JQ.go (JC.seq (JC.region (by rfl) ?_)))
           intro hQ
           refine JL.loadOwn 0 az_25 rfl rfl rfl .none rfl ?_
           refine JL.fieldAddr fo_25_2 rfl .none rfl ?_
           refine JL.loadOwn 0 az_22 rfl rfl rfl .none rfl ?_
           refine JL.move .none rfl ?_
           obtain ⟨y172, hy172, hF⟩ := bind_some hF
           refine JL.callS (c_ref03_Rows n H127 s s_v2 (SL.mono R_Cell_mono (HSub.trans hs10 (HSub.trans hs82 hs127)) hs_2) s_v3 (SL.mono R_Cell_mono (HSub.trans hs10 (HSub.trans hs82 hs127)) hs_3) s_v4 (SL.mono R_Panel_mono (HSub.trans hs10 (HSub.trans hs82 hs127)) hs_4) s.Faults s_v2 (SL.mono R_Cell_mono (HSub.trans hs10 (HSub.trans hs82 hs127)) hs_2) lay lay_v0 (SL.mono R_Place_mono (HSub.trans hs10 (HSub.trans hs82 hs127)) hlay_0) y172 hy172) rfl en_25 .none rfl ?_
           refine JL.assign .none rfl ?_
           refine JL.done hQ (JQ.go (JC.seq (JC.region (by rfl) ?_)))
           intro hQ
           refine JL.move .none rfl ?_
           refine JL.bin rfl rfl rfl .none rfl ?_
           refine JL.move .none rfl ?_
           refine JL.cut 8 (fun f => f 142 = .bool ((decide (y172 < 0)) || ((y8.2 == 0) && (decide (y8.1 ≤ y172))))) ?_ ?_
           ·intro hJ175
            rcases bcases (decide (y172 < 0)) with hc176 | hc176
            ·skip
             refine JL.skip (.bool rfl rfl rfl hc176) rfl ?_
             refine JL.skip (.bool rfl rfl rfl hc176) rfl ?_
             refine JL.skip (.bool rfl rfl rfl hc176) rfl ?_
             refine JL.skip (.no rfl rfl rfl) rfl ?_
             refine JL.skip (.no rfl rfl rfl) rfl ?_
             refine JL.skip (.no rfl rfl rfl) rfl ?_
             refine JL.skip (.bool rfl rfl rfl hc176) rfl ?_
             refine JL.pick_t (b := decide (y172 < 0)) rfl hc176 .none rfl ?_
             exact hJ175 _ (or_t hc176 rfl)
            ·skip
             refine JL.move (.some rfl rfl rfl hc176) rfl ?_
             refine JL.bin rfl rfl rfl (.some rfl rfl rfl hc176) rfl ?_
             refine JL.move (.some rfl rfl rfl hc176) rfl ?_
             refine JL.cut 4 (fun f => f 134 = .bool (decide (y172 < 0)) ∧ f 141 = .bool ((y8.2 == 0) && (decide (y8.1 ≤ y172)))) ?_ ?_
             ·intro hJ177
              rcases bcases (y8.2 == 0) with hc178 | hc178
              ·skip
               refine JL.move (.some rfl rfl rfl hc178) rfl ?_
               refine JL.move (.some rfl rfl rfl hc178) rfl ?_
               refine JL.bin rfl rfl rfl (.some rfl rfl rfl hc178) rfl ?_
               refine JL.pick_t (b := (y8.2 == 0)) rfl hc178 (.some rfl rfl rfl hc176) rfl ?_
               exact hJ177 _ ⟨rfl, and_t hc178 rfl⟩
              ·skip
               refine JL.skip (.bool rfl rfl rfl hc178) rfl ?_
               refine JL.skip (.bool rfl rfl rfl hc178) rfl ?_
               refine JL.skip (.bool rfl rfl rfl hc178) rfl ?_
               refine JL.pick_f (b := (y8.2 == 0)) rfl hc178 (.some rfl rfl rfl hc176) rfl ?_
               exact hJ177 _ ⟨rfl, and_f hc178 rfl⟩
             ·rintro f ⟨hf134, hf141⟩
              refine (JL.norm (i := 134) hf134 (JL.norm (i := 141) hf141 ?_))
              refine JL.pick_f (b := decide (y172 < 0)) rfl hc176 .none rfl ?_
              exact hJ175 _ (or_f hc176 rfl)
           ·rintro f hf142
            refine (JL.norm (i := 142) hf142 ?_)
            refine JL.move .none rfl ?_
            obtain ⟨p180, hp180, hF⟩ := bind_some hF
            refine JL.cut 2 (fun f => f 145 = .bool p180) ?_ ?_
            ·intro hJ181
             rcases ite_some hp180 with ⟨hc182, hF⟩ | ⟨hc182, hF⟩
             ·skip
              obtain ⟨y183, hy183, hF⟩ := bind_some hF
              refine JL.callS (c_law03_works n H127 y183 hy183) rfl en_11 (.some rfl rfl rfl hc182) rfl ?_
              refine JL.pick_t (b := ((decide (y172 < 0)) || ((y8.2 == 0) && (decide (y8.1 ≤ y172))))) rfl hc182 .none rfl ?_
              obtain rfl := Option.some.inj hF
              exact hJ181 _ (rfl)
             ·skip
              refine JL.skip (.bool rfl rfl rfl hc182) rfl ?_
              refine JL.pick_f (b := ((decide (y172 < 0)) || ((y8.2 == 0) && (decide (y8.1 ≤ y172))))) rfl hc182 .none rfl ?_
              obtain rfl := Option.some.inj hF
              exact hJ181 _ (rfl)
            ·rintro f hf145
             refine (JL.norm (i := 145) hf145 ?_)
             refine JL.assign .none rfl ?_
             refine JL.done hQ (JQ.go (JC.ret ?_))
             obtain rfl := Option.some.inj hF
             exact JQ.outS rfl (.tmp .nil) rfl
end Go.Proofs.Ytflhjlgimihmgaa
end
section
namespace Go.Proofs.Ytflhjlgimihmgaa
open Go Go.RowKit Go.Dec
/-- the places of a lay are places -/
theorem LayIn.places {W n : Int} (hW : W ≤ 8) (hn : n ≤ 12) : ∀ {ps : List Panel} {pls : List Place} {bad : Int → Int → Prop}, (∀ p ∈ ps, VPn p) → LayIn W n bad ps pls → ∀ pl ∈ pls, IsPl pl
  | [], [], _, _, _, pl, h => by cases h
  | p :: ps, q :: pls, _, hp, ⟨h1, h2, h3⟩, pl, h => by
    rcases List.mem_cons.1 h with rfl | h
    · have hf := first_in ((hp p List.mem_cons_self).turn pl.Turned) h2
      obtain ⟨k1, k2, k3⟩ := h1
      exact ⟨⟨k1, by omega⟩, ⟨k2, by omega⟩, by omega, by omega⟩
    · exact h3.places hW hn (fun q hq => hp q (List.mem_cons_of_mem _ hq)) pl h
theorem law_LaysProof (s : Lap) (lay : List Place) (hs : W_Lap s) (_ : (∀ z0 ∈ lay, W_Place z0) ∧ lay.length ≤ 9223372036854775807) : ∃ n, F_law03_LaysProof n s lay = some true := by
  obtain ⟨n, hn⟩ : ∃ n : Nat, n = 2000000 := ⟨_, rfl⟩
  refine ⟨n, ?_⟩
  have hn2 : 2000000 ≤ n := by omega
  have hn1 : 1000000 ≤ n := by omega
  have hw : F_law03_works n = some true := by rw [hn]; exact works_ok
  rw [F_law03_LaysProof]
  obtain ⟨b, e, q⟩ := p_ready hn1 s hs.np
  rw [e]
  simp only [Option.bind_some]
  by_cases hb : b = true ∧ lay.length ≤ 20
  · obtain ⟨rfl, hlay⟩ := hb
    rw [decide_eq_false (show ¬ 20 < (lay.length : Int) by omega)]
    simp only [Bool.not_true, Bool.or_self, Bool.false_eq_true, if_false]
    have hV := (q.1 rfl).v
    have hL := hV.l
    have hW := hV.w
    have hnp := hV.np
    have hfa := hV.fa.2.2
    have hfl := hV.fl.2.2
    obtain ⟨m1, l1, f1, f3, g1⟩ := p_Least hn2 hV
    obtain ⟨m2, l2, f2, g2⟩ := p_Hopes hn2 hV
    rw [f1, f2, f3]
    simp only [Option.bind_some, isKnown_ans, Bool.not_true, Bool.false_eq_true, if_false, Bool.false_or, bne_self_eq_false]
    -- the least lay itself
    have hown : (if ((ans m1).2 == 0) = true then ((if ((((ans m2).2 != 0) || (decide ((ans m1).1 < (ans m2).1))) || (decide (s.Length < (ans m1).1)) || (decide (20 < (l1.length : Int)))) = true then (some true) else ((F_law03_rows n s l1).bind fun y72 => some (y72 != (ans m1).1)) : Option Bool).bind fun p69 => some p69) else (some false) : Option Bool) = some false := by
      rcases g1.m_eq with k | k
      · rw [ans_ok k]
        obtain ⟨k1, k2⟩ := LeastIs.le (Int.le_refl _) (fun k _ h => h.mono (Int.le_refl _) sure_all) g1 g2 k
        rw [ans_ok k1]
        rcases g1 with ⟨⟨_, hm⟩, hin, hno⟩ | ⟨h, _⟩
        · have hlen := hin.len
          have hpl := hin.places (by omega) (by omega) hV.p
          obtain ⟨K, eK, hK⟩ := p_Rows hn1 hV (s.Faults ++ s.Flaws) (by rw [List.length_append]; omega) l1 (by omega) hpl
          rw [decide_eq_false (show ¬ m1 < m2 by omega), decide_eq_false (show ¬ s.Length < m1 by omega), decide_eq_false (show ¬ 20 < (l1.length : Int) by omega), p_rowsLaw hn1 hV l1 (by omega) hpl, eK]
          have hKm : K = m1 := by
            rcases hK with ⟨_, h⟩ | ⟨h0, h⟩
            · exact absurd ((LayIn.congr inL_all).2 (hin.mono hm fun _ _ h => h)) h
            · have h1 := (h m1 k).1 ((LayIn.congr inL_all).2 hin)
              rcases Int.lt_or_le K m1 with hlt | hle
              · exact absurd ⟨_, (LayIn.congr inL_all).1 ((h K h0.1).2 (Int.le_refl _))⟩ (hno K h0.1 hlt)
              · omega
          subst hKm
          simp
        · omega
      · rw [ans_no k]; rfl
    rw [hown]
    simp only [Option.bind_some, Bool.false_eq_true, if_false]
    -- its room
    have hroom : (if ((ans m1).2 == 0) = true then ((F_lays_Room n s (ans m1).1).bind fun y85 => (if (y85.2 != 0) = true then (some true) else ((F_ref03_Area n s).bind fun y90 => some (decide (y85.1 < y90))) : Option Bool).bind fun p87 => if p87 = true then (some (Sum.inl false)) else (some (Sum.inr ()))) else (some (Sum.inr ())) : Option (Bool ⊕ Unit)) = some (.inr ()) := by
      rcases g1.m_eq with k | k
      · rw [ans_ok k]
        rcases g1 with ⟨⟨_, hm⟩, hin, _⟩ | ⟨h, _⟩
        · obtain ⟨M, hM⟩ : ∃ M : Nat, m1 = M := ⟨m1.toNat, by omega⟩
          subst hM
          have h1 := room_ok hV hm hin
          simp only [beq_self_eq_true, if_true, p_Room hn1 hV M hm, p_Area hn1 hV, Option.bind_some, bne_self_eq_false, Bool.false_eq_true, if_false]
          rw [decide_eq_false (by omega), if_neg (by decide)]
        · omega
      · rw [ans_no k]; rfl
    rw [hroom]
    simp only [Option.bind_some]
    -- any lay
    obtain ⟨r, hr, hpost⟩ := loop_list (step := F_law03_LaysProof_s1 n lay) lay (fun i (_ : Unit) => (i : Int)) (fun i _ => ∀ j x, j < i → lay[j]? = some x → IsPl x)
      (fun r => match r with | .inl o => o = true | .inr _ => ∀ x ∈ lay, IsPl x) (n := n) () (by intro j x h; omega) (fun i x _ hx hI => by
        have hi := (List.getElem?_eq_some_iff.1 hx).1
        obtain ⟨b, e, q⟩ := p_IsPlace (n := n) x
        rw [F_law03_LaysProof_s1, dlt, decide_eq_true hi, geti_nat, hx]
        simp only [if_true, Option.bind_some, e, w64_nat (show i ≤ 4611686018427387904 by omega)]
        cases b with
        | true =>
          refine .inl ⟨(), rfl, fun j y hj hy => ?_⟩
          rcases Nat.lt_or_ge j i with h | h
          · exact hI j y h hy
          · obtain rfl : j = i := by omega
            rw [hx] at hy; cases hy; exact q.1 rfl
        | false => exact .inr ⟨.inl true, by simp [hw], rfl⟩) (fun _ hI => by
        refine ⟨.inr (), by rw [F_law03_LaysProof_s1, dlt]; simp, fun p hp => ?_⟩
        obtain ⟨j, hj⟩ := List.mem_iff_getElem?.1 hp
        exact hI j p (List.getElem?_eq_some_iff.1 hj).1 hj) (by omega)
    rw [show (0 : Int) = ((0 : Nat) : Int) from rfl] at *
    rw [hr]
    cases r with
    | inl o => simp only at hpost; subst hpost; rfl
    | inr u =>
      simp only [Option.bind_some] at hpost ⊢
      rw [p_rowsLaw hn1 hV lay hlay hpost]
      obtain ⟨K, eK, hK⟩ := p_Rows hn1 hV (s.Faults ++ s.Flaws) (by rw [List.length_append]; omega) lay hlay hpost
      obtain ⟨J, eJ, hJ⟩ := p_Rows hn1 hV s.Faults (by omega) lay hlay hpost
      rw [eK, eJ]
      simp only [Option.bind_some]
      have c1 : (decide (((0 : Nat) : Int) ≤ K) && (((ans m1).2 != ((0 : Nat) : Int)) || decide (K < (ans m1).1))) = false := by
        rcases hK with ⟨h, _⟩ | ⟨h0, h⟩
        · rw [decide_eq_false (by omega), Bool.false_and]
        · have hlayK := (LayIn.congr inL_all).1 ((h K h0.1).2 (Int.le_refl _))
          rcases g1 with ⟨⟨k0, _⟩, _, hno⟩ | ⟨h1, _, hno⟩
          · have : m1 ≤ K := by
              rcases Int.lt_or_le K m1 with hlt | hle
              · exact absurd ⟨_, hlayK⟩ (hno K h0.1 hlt)
              · exact hle
            rw [ans_ok k0, decide_eq_false (show ¬ K < m1 by omega)]; simp
          · exact absurd ⟨_, hlayK⟩ (hno K h0.1 h0.2)
      have c2 : (decide (J < ((0 : Nat) : Int)) || (((ans m2).2 == ((0 : Nat) : Int)) && decide ((ans m2).1 ≤ J))) = true := by
        rcases hJ with ⟨h, _⟩ | ⟨h0, h⟩
        · rw [decide_eq_true (by omega), Bool.true_or]
        · have hlayJ := (LayIn.congr inL_sure).1 ((h J h0.1).2 (Int.le_refl _))
          rcases g2 with ⟨⟨k0, _⟩, _, hno⟩ | ⟨h1, _, hno⟩
          · have : m2 ≤ J := by
              rcases Int.lt_or_le J m2 with hlt | hle
              · exact absurd ⟨_, hlayJ⟩ (hno J h0.1 hlt)
              · exact hle
            rw [ans_ok k0, decide_eq_true (show m2 ≤ J by omega)]; simp
          · exact absurd ⟨_, hlayJ⟩ (hno J h0.1 h0.2)
      rw [c1, c2]
      simp only [Bool.false_eq_true, if_false, if_true, hw, Option.bind_some]
  · rw [if_pos ?_, hw]; rfl
    cases b with
    | false => rfl
    | true => rw [decide_eq_true (show 20 < (lay.length : Int) by have : ¬ lay.length ≤ 20 := fun h => hb ⟨rfl, h⟩; omega), Bool.or_true]
end Go.Proofs.Ytflhjlgimihmgaa
end
