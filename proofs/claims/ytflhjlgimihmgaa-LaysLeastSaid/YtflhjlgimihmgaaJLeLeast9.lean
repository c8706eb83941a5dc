/-
  A part of the proof of LeLeast: the texts LeLad, EngN, LeOpn, LeLae, LeLaf, LeLah, LeLai, LeLaj, LeLag, LeLak.
-/
import Derived.Test.YtflhjlgimihmgaaJLeLeast8
import Derived.OpenShut
section
namespace Go.Proofs.Ytflhjlgimihmgaa
open Go Go.RowKit Go.Dec
/-- panels laid, one beside the other, in the first n rows, none on what is bad -/
def LayIn (W n : Int) : (Int → Int → Prop) → List Panel → List Place → Prop
  | _, [], [] => True
  | bad, p :: ps, pl :: pls => PlOK pl ∧ Fits W n bad (rowsT p pl.Turned) pl ∧ LayIn W n (fun r c => bad r c ∨ cov (rowsT p pl.Turned) pl r c) ps pls
  | _, _, _ => False
theorem LayIn.mono {W n n' : Int} (hn : n ≤ n') : ∀ {ps : List Panel} {pls : List Place} {bad bad' : Int → Int → Prop}, (∀ r c, bad' r c → bad r c) → LayIn W n bad ps pls → LayIn W n' bad' ps pls
  | [], [], _, _, _, _ => trivial
  | p :: ps, pl :: pls, _, _, hb, ⟨h1, h2, h3⟩ => ⟨h1, fun r c hc => ⟨by have := (h2 r c hc).1; omega, (h2 r c hc).2.1, fun h => (h2 r c hc).2.2 (hb r c h)⟩, h3.mono hn fun r c h => h.imp (hb r c) id⟩
theorem LayIn.len {W n : Int} : ∀ {ps : List Panel} {pls : List Place} {bad : Int → Int → Prop}, LayIn W n bad ps pls → pls.length = ps.length
  | [], [], _, _ => rfl
  | _ :: ps, _ :: pls, _, ⟨_, _, h⟩ => by simp [h.len]
/-- there is a lay in the first n rows -/
def Has (s : Lap) (bad : Int → Int → Prop) (n : Int) : Prop := ∃ pls, LayIn s.Width n bad s.Panels pls
theorem Has.mono {s : Lap} {bad bad' : Int → Int → Prop} {n n' : Int} (hn : n ≤ n') (hb : ∀ r c, bad' r c → bad r c) (h : Has s bad n) : Has s bad' n' := let ⟨pls, h⟩ := h; ⟨pls, h.mono hn hb⟩
/-- the least number of rows, with a lay -/
def LeastIs (s : Lap) (bad : Int → Int → Prop) (m : Int) (lay : List Place) : Prop :=
  ((0 ≤ m ∧ m ≤ s.Length) ∧ LayIn s.Width m bad s.Panels lay ∧ ∀ k, 0 ≤ k → k < m → ¬ Has s bad k) ∨ (m = -1 ∧ lay = [] ∧ ∀ k, 0 ≤ k → k ≤ s.Length → ¬ Has s bad k)
theorem first_in {W m : Int} {bad : Int → Int → Prop} {rs : List Span} {pl : Place} (hR : VPn ⟨rs⟩) (h : Fits W m bad rs pl) : pl.Row < m ∧ pl.Col < W := by
  obtain ⟨hn, hr, s, hs, h0⟩ := hR
  simp only at hn hr hs
  obtain ⟨k, hk⟩ := List.mem_iff_getElem?.1 hs
  have hs' := hr s hs
  have h1 := h (pl.Row + k) pl.Col ⟨k, s, hk, rfl, by omega, by omega⟩
  exact ⟨by omega, h1.2.1⟩
section
variable {n : Nat}
theorem p_fill {c : Lap} (hv : VL c) {m : Int} (hm : 0 ≤ m ∧ m ≤ 12) : ∀ (d n : Nat), 1000001 + d ≤ n → ∀ (tk : List Int) (lay : List Place), TK tk → lay.length + d = c.Panels.length →
    ∃ y, F_lays_cloth_fill n c m tk lay = some y ∧ ((y.1 = true ∧ ∃ pls, y.2.2 = lay ++ pls ∧ LayIn c.Width m (badT tk) (c.Panels.drop lay.length) pls) ∨ (y.1 = false ∧ ¬ ∃ pls, LayIn c.Width m (badT tk) (c.Panels.drop lay.length) pls)) := by
  have hW := hv.w
  have hnp := hv.np
  intro d
  induction d with
  | zero =>
    intro n hn tk lay hT hd
    obtain ⟨n, rfl⟩ : ∃ k, n = k + 1 := ⟨n - 1, by omega⟩
    rw [F_lays_cloth_fill]
    dsimp only
    rw [if_pos (by simp; omega)]
    exact ⟨_, rfl, .inl ⟨rfl, [], by simp, by rw [List.drop_of_length_le (by omega)]; trivial⟩⟩
  | succ d ih =>
    intro n hn tk lay hT hd
    obtain ⟨n, rfl⟩ : ∃ k, n = k + 1 := ⟨n - 1, by omega⟩
    rw [F_lays_cloth_fill]
    dsimp only
    rw [if_neg (by simp; omega)]
    have hlt : lay.length < c.Panels.length := by omega
    obtain ⟨p, hp⟩ : ∃ p, c.Panels[lay.length]? = some p := ⟨_, List.getElem?_eq_getElem hlt⟩
    have hvp := hv.p p (List.mem_of_getElem? hp)
    have hdrop : c.Panels.drop lay.length = p :: c.Panels.drop (lay.length + 1) := by
      rw [List.drop_eq_getElem_cons hlt]
      congr 1
      rw [List.getElem?_eq_getElem hlt] at hp
      exact Option.some.inj hp
    rw [hdrop]
    obtain ⟨Start, hStart⟩ : ∃ S : Place → Prop, S = fun pl => ∃ pls, LayIn c.Width m (badT tk) (p :: c.Panels.drop (lay.length + 1)) (pl :: pls) := ⟨_, rfl⟩
    obtain ⟨Good, hGood⟩ : ∃ G : Bool × List Int × List Place → Prop, G = fun y => y.1 = true ∧ ∃ pls, y.2.2 = lay ++ pls ∧ LayIn c.Width m (badT tk) (p :: c.Panels.drop (lay.length + 1)) pls := ⟨_, rfl⟩
    -- one place
    have one : ∀ pl : Place, PlOK pl → pl.Row ≤ 12 ∧ pl.Col ≤ 12 → ∃ y, F_lays_cloth_put n c m tk lay (lay.length : Int) pl = some y ∧ ((y.1 = true ∧ ∃ z, F_lays_cloth_fill n c m y.2.1 y.2.2 = some z ∧ ((z.1 = true ∧ Good (true, z.2.1, z.2.2)) ∨ (z.1 = false ∧ ¬ Start pl))) ∨ (y.1 = false ∧ ¬ Start pl)) := by
      intro pl hpl hpb
      obtain ⟨y, hy, h⟩ := p_put (n := n) (by omega) hv hm hT lay (by omega) hp hpl hpb
      refine ⟨y, hy, ?_⟩
      rcases h with ⟨h1, h2, h3, h4, h5⟩ | ⟨h1, h2⟩
      · refine .inl ⟨h1, ?_⟩
        obtain ⟨z, hz, h⟩ := ih n (by omega) y.2.1 y.2.2 h3 (by rw [h4, List.length_append]; simp; omega)
        refine ⟨z, hz, ?_⟩
        have hlen : y.2.2.length = lay.length + 1 := by rw [h4, List.length_append]; rfl
        rw [hlen] at h
        have conv : ∀ pls, LayIn c.Width m (badT y.2.1) (c.Panels.drop (lay.length + 1)) pls ↔ LayIn c.Width m (fun r x => badT tk r x ∨ cov (rowsT p pl.Turned) pl r x) (c.Panels.drop (lay.length + 1)) pls := fun pls =>
          ⟨fun h => h.mono (Int.le_refl _) fun r x => (h5 r x).2, fun h => h.mono (Int.le_refl _) fun r x => (h5 r x).1⟩
        rcases h with ⟨k1, pls, k2, k3⟩ | ⟨k1, k2⟩
        · refine .inl ⟨k1, ?_⟩
          rw [hGood]
          exact ⟨rfl, pl :: pls, by simp only; rw [k2, h4]; simp, hpl, h2, (conv pls).1 k3⟩
        · refine .inr ⟨k1, ?_⟩
          rw [hStart]
          rintro ⟨pls, _, _, h6⟩
          exact k2 ⟨pls, (conv pls).2 h6⟩
      · refine .inr ⟨h1, ?_⟩
        rw [hStart]
        rintro ⟨pls, _, h6, _⟩
        exact h2 h6
    -- the three loops
    have turn : ∀ row col : Nat, row ≤ 12 → col ≤ 12 → ∃ r, loopO n (F_lays_cloth_fill_s3 n (F_lays_cloth_fill n) c m tk lay (row : Int) (col : Int)) 0 = some r ∧ (match r with | .inl o => ∃ y, o = .inr (.inl (.inr (.inl y))) ∧ Good y | .inr _ => ∀ t : Int, t = 0 ∨ t = 1 → ¬ Start ⟨row, col, t⟩) := by
      intro row col hrow hcol
      refine loop_nats (step := F_lays_cloth_fill_s3 n (F_lays_cloth_fill n) c m tk lay (row : Int) (col : Int)) 2 (fun i (_ : Unit) => (i : Int)) (fun i _ => ∀ t : Nat, t < i → ¬ Start ⟨row, col, t⟩)
        (fun r => match r with | .inl o => ∃ y, o = .inr (.inl (.inr (.inl y))) ∧ Good y | .inr _ => ∀ t : Int, t = 0 ∨ t = 1 → ¬ Start ⟨row, col, t⟩) (n := n) () (by intro t h; omega) (fun i _ hi hI => ?_) (fun _ hI => ?_) (by omega)
      · obtain ⟨y, hy, h⟩ := one ⟨row, col, i⟩ ⟨by simp only; omega, by simp only; omega, by simp only; omega⟩ ⟨by simp only; omega, by simp only; omega⟩
        rw [F_lays_cloth_fill_s3, decide_eq_true (show (i : Int) < 2 by omega)]
        simp only [if_true, hy, Option.bind_some]
        have next : ¬ Start ⟨row, col, i⟩ → ∀ t : Nat, t < i + 1 → ¬ Start ⟨row, col, t⟩ := fun h t ht => by
          rcases Nat.lt_or_ge t i with h' | h'
          · exact hI t h'
          · obtain rfl : t = i := by omega
            exact h
        rcases h with ⟨h1, z, hz, h⟩ | ⟨h1, h2⟩
        · rw [if_pos h1, hz]
          simp only [Option.bind_some]
          rcases h with ⟨k1, k2⟩ | ⟨k1, k2⟩
          · rw [if_pos k1]; exact .inr ⟨_, rfl, _, rfl, k2⟩
          · rw [if_neg (by rw [k1]; decide), w64_nat (by omega)]; exact .inl ⟨(), rfl, next k2⟩
        · rw [if_neg (by rw [h1]; decide), w64_nat (by omega)]; exact .inl ⟨(), rfl, next h2⟩
      · refine ⟨.inr (), by rw [F_lays_cloth_fill_s3]; simp, fun t ht => ?_⟩
        rcases ht with rfl | rfl
        · exact hI 0 (by omega)
        · exact hI 1 (by omega)
    have colL : ∀ row : Nat, row ≤ 12 → ∃ r, loopO n (F_lays_cloth_fill_s2 n (F_lays_cloth_fill n) c m tk lay (row : Int)) 0 = some r ∧ (match r with | .inl o => ∃ y, o = .inr (.inl y) ∧ Good y | .inr _ => ∀ (col : Nat) (t : Int), (col : Int) < c.Width → t = 0 ∨ t = 1 → ¬ Start ⟨row, col, t⟩) := by
      intro row hrow
      refine loop_nats (step := F_lays_cloth_fill_s2 n (F_lays_cloth_fill n) c m tk lay (row : Int)) c.Width.toNat (fun i (_ : Unit) => (i : Int)) (fun i _ => ∀ (col : Nat) (t : Int), col < i → t = 0 ∨ t = 1 → ¬ Start ⟨row, col, t⟩)
        (fun r => match r with | .inl o => ∃ y, o = .inr (.inl y) ∧ Good y | .inr _ => ∀ (col : Nat) (t : Int), (col : Int) < c.Width → t = 0 ∨ t = 1 → ¬ Start ⟨row, col, t⟩) (n := n) () (by intro col t h; omega) (fun i _ hi hI => ?_) (fun _ hI => ?_) (by omega)
      · obtain ⟨r, hr, h⟩ := turn row i hrow (by omega)
        rw [F_lays_cloth_fill_s2, decide_eq_true (show (i : Int) < c.Width by omega)]
        simp only [if_true, hr, Option.bind_some]
        cases r with
        | inl o =>
          obtain ⟨y, rfl, hg⟩ := h
          exact .inr ⟨_, rfl, y, rfl, hg⟩
        | inr u =>
          simp only [w64_nat (show i ≤ 4611686018427387904 by omega)]
          refine .inl ⟨(), by trivial, fun col t hc ht => ?_⟩
          rcases Nat.lt_or_ge col i with h' | h'
          · exact hI col t h' ht
          · obtain rfl : col = i := by omega
            exact h t ht
      · refine ⟨.inr (), by rw [F_lays_cloth_fill_s2, decide_eq_false (by omega)]; rfl, fun col t hc ht => hI col t (by omega) ht⟩
    obtain ⟨r, hr, h⟩ : ∃ r, loopO n (F_lays_cloth_fill_s1 n (F_lays_cloth_fill n) c m tk lay) 0 = some r ∧ (match r with | .inl y => Good y | .inr _ => ∀ (row col : Nat) (t : Int), (row : Int) < m → (col : Int) < c.Width → t = 0 ∨ t = 1 → ¬ Start ⟨row, col, t⟩) := by
      refine loop_nats (step := F_lays_cloth_fill_s1 n (F_lays_cloth_fill n) c m tk lay) m.toNat (fun i (_ : Unit) => (i : Int)) (fun i _ => ∀ (row col : Nat) (t : Int), row < i → (col : Int) < c.Width → t = 0 ∨ t = 1 → ¬ Start ⟨row, col, t⟩)
        (fun r => match r with | .inl y => Good y | .inr _ => ∀ (row col : Nat) (t : Int), (row : Int) < m → (col : Int) < c.Width → t = 0 ∨ t = 1 → ¬ Start ⟨row, col, t⟩) (n := n) () (by intro row col t h; omega) (fun i _ hi hI => ?_) (fun _ hI => ?_) (by omega)
      · obtain ⟨r, hr, h⟩ := colL i (by omega)
        rw [F_lays_cloth_fill_s1, decide_eq_true (show (i : Int) < m by omega)]
        simp only [if_true, hr, Option.bind_some]
        cases r with
        | inl o =>
          obtain ⟨y, rfl, hg⟩ := h
          exact .inr ⟨_, rfl, hg⟩
        | inr u =>
          simp only [w64_nat (show i ≤ 4611686018427387904 by omega)]
          refine .inl ⟨(), by trivial, fun row col t hr hc ht => ?_⟩
          rcases Nat.lt_or_ge row i with h' | h'
          · exact hI row col t h' hc ht
          · obtain rfl : row = i := by omega
            exact h col t hc ht
      · refine ⟨.inr (), by rw [F_lays_cloth_fill_s1, decide_eq_false (by omega)]; rfl, fun row col t hr hc ht => hI row col t (by omega) hc ht⟩
    rw [hr]
    cases r with
    | inl y =>
      simp only at h
      rw [hGood] at h
      exact ⟨y, rfl, .inl h⟩
    | inr u =>
      simp only at h
      refine ⟨(false, tk, lay), rfl, .inr ⟨rfl, ?_⟩⟩
      rintro ⟨pls, hpls⟩
      cases pls with
      | nil => exact hpls
      | cons pl pls =>
        have hf := first_in (hvp.turn pl.Turned) hpls.2.1
        obtain ⟨k1, k2, k3⟩ := hpls.1
        refine h pl.Row.toNat pl.Col.toNat pl.Turned (by omega) (by omega) k3 ?_
        rw [hStart]
        refine ⟨pls, ?_⟩
        have e : (⟨((pl.Row.toNat : Nat) : Int), ((pl.Col.toNat : Nat) : Int), pl.Turned⟩ : Place) = pl := by
          obtain ⟨a, b, t⟩ := pl
          simp only at k1 k2
          simp only [Place.mk.injEq, and_true]
          omega
        rw [e]; exact hpls
theorem p_least (hn : 2000000 ≤ n) {s : Lap} (hv : VL s) {tk : List Int} (hT : TK tk) : ∃ m lay, F_lays_least n s tk = some (m, lay) ∧ LeastIs s (badT tk) m lay := by
  have hL := hv.l
  have hnp := hv.np
  rw [F_lays_least]
  have hw : w64 (s.Length + 1) = s.Length + 1 := w64_id (by omega) (by omega)
  obtain ⟨r, hr, h⟩ := loop_nats (step := F_lays_least_s1 n s tk) (s.Length + 1).toNat (fun i (_ : Unit) => (i : Int)) (fun i _ => ∀ k : Int, 0 ≤ k → k < i → ¬ Has s (badT tk) k)
    (fun r => match r with | .inl y => (0 ≤ y.1 ∧ y.1 ≤ s.Length) ∧ LayIn s.Width y.1 (badT tk) s.Panels y.2 ∧ ∀ k, 0 ≤ k → k < y.1 → ¬ Has s (badT tk) k | .inr _ => ∀ k, 0 ≤ k → k ≤ s.Length → ¬ Has s (badT tk) k) (n := n) () (by intro k h0 h1; omega) (fun i _ hi hI => by
      obtain ⟨y, hy, h⟩ := p_fill hv (m := (i : Int)) ⟨by omega, by omega⟩ s.Panels.length n (by omega) tk [] hT (by simp)
      rw [F_lays_least_s1, hw, decide_eq_true (show (i : Int) < s.Length + 1 by omega)]
      simp only [if_true, hy, Option.bind_some]
      simp only [List.length_nil, List.drop_zero, List.nil_append] at h
      rcases h with ⟨h1, pls, h2, h3⟩ | ⟨h1, h2⟩
      · rw [if_pos h1]
        exact .inr ⟨_, rfl, ⟨by simp only; omega, by simp only; omega⟩, by simp only; rw [h2]; exact h3, hI⟩
      · rw [if_neg (by rw [h1]; decide), w64_nat (by omega)]
        refine .inl ⟨(), rfl, fun k h0 hk => ?_⟩
        rcases Int.lt_or_le k (i : Int) with h' | h'
        · exact hI k h0 h'
        · obtain rfl : k = (i : Int) := by omega
          exact h2) (fun _ hI => by
      refine ⟨.inr (), by rw [F_lays_least_s1, hw, decide_eq_false (by omega)]; rfl, fun k h0 hk => hI k h0 (by omega)⟩) (by omega)
  rw [show (0 : Int) = ((0 : Nat) : Int) from rfl, hr]
  cases r with
  | inl y => exact ⟨y.1, y.2, rfl, .inl h⟩
  | inr u => exact ⟨-1, [], rfl, .inr ⟨rfl, rfl, h⟩⟩
def isBad (ls : List (List Cell)) (r c : Int) : Prop := ∃ l ∈ ls, (⟨r, c⟩ : Cell) ∈ l
theorem LeastIs.congr {s : Lap} {bad bad' : Int → Int → Prop} (hb : ∀ r c, bad r c ↔ bad' r c) {m : Int} {lay : List Place} (h : LeastIs s bad m lay) : LeastIs s bad' m lay := by
  have e : ∀ k, Has s bad' k → Has s bad k := fun k => Has.mono (Int.le_refl _) fun r c => (hb r c).1
  rcases h with ⟨h1, h2, h3⟩ | ⟨h1, h2, h3⟩
  · exact .inl ⟨h1, h2.mono (Int.le_refl _) fun r c => (hb r c).2, fun k h0 hk h => h3 k h0 hk (e k h)⟩
  · exact .inr ⟨h1, h2, fun k h0 hk h => h3 k h0 hk (e k h)⟩
theorem VL.cell {s : Lap} (h : VL s) {c : Cell} (hc : InC s c) : (0 ≤ c.Row ∧ c.Row < 12) ∧ 0 ≤ c.Col ∧ c.Col < 8 := by
  obtain ⟨⟨h1, h2⟩, h3, h4⟩ := hc
  have := h.l; have := h.w
  exact ⟨⟨h1, by omega⟩, h3, by omega⟩
theorem badT_isBad {tk : List Int} {ls : List (List Cell)} (hc : ∀ l ∈ ls, ∀ c ∈ l, (0 ≤ c.Row ∧ c.Row < 12) ∧ 0 ≤ c.Col ∧ c.Col < 8) (h : ∀ r c, hasB tk r c = true ↔ ∃ l ∈ ls, ∃ x ∈ l, x.Row = (r : Nat) ∧ x.Col = (c : Nat)) (r c : Int) : badT tk r c ↔ isBad ls r c := by
  constructor
  · rintro ⟨h0, h1, h2⟩
    obtain ⟨l, hl, x, hx, e1, e2⟩ := (h _ _).1 h2
    refine ⟨l, hl, ?_⟩
    have : x = ⟨r, c⟩ := cell_ext (by rw [e1]; simp only; omega) (by rw [e2]; simp only; omega)
    exact this ▸ hx
  · rintro ⟨l, hl, hx⟩
    have := hc l hl _ hx
    simp only at this
    exact ⟨by omega, by omega, (h _ _).2 ⟨l, hl, _, hx, by simp only; omega, by simp only; omega⟩⟩
/-- cells of the cloth, as bits, and the least lay beside them -/
theorem p_leastOf (hn : 2000000 ≤ n) {s : Lap} (hv : VL s) (ls : List (List Cell)) (hls : ls.length ≤ 2) (hl : ∀ l ∈ ls, l.length ≤ 100) (hc : ∀ l ∈ ls, ∀ c ∈ l, InC s c) :
    ∃ tk m lay, F_lays_cellsOf n ls = some tk ∧ lenck 12 tk = some () ∧ TK tk ∧ (∀ r c, badT tk r c ↔ isBad ls r c) ∧ F_lays_least n s tk = some (m, lay) ∧ LeastIs s (isBad ls) m lay := by
  have hc' : ∀ l ∈ ls, ∀ c ∈ l, (0 ≤ c.Row ∧ c.Row < 12) ∧ 0 ≤ c.Col ∧ c.Col < 8 := fun l h c h' => hv.cell (hc l h c h')
  obtain ⟨tk, h1, h2, h3, h4⟩ := p_cellsOf (n := n) (by omega) ls hls hl hc'
  obtain ⟨m, lay, h5, h6⟩ := p_least hn hv h3
  have hb := badT_isBad hc' h4
  exact ⟨tk, m, lay, h1, h2, h3, hb, h5, h6.congr hb⟩
/-- the answer: rows and no error, or none -/
def ans (m : Int) : Int × Int := if m < 0 then (0, 3) else (m, 0)
def allB (s : Lap) : Int → Int → Prop := isBad [s.Faults, s.Flaws]
def sureB (s : Lap) : Int → Int → Prop := isBad [s.Faults]
theorem p_sure (hn : 2000000 ≤ n) {s : Lap} (hv : VL s) : ∃ m lay, F_lays_sure n s = some ((ans m).1, lay, (ans m).2) ∧ LeastIs s (allB s) m lay := by
  obtain ⟨tk, m, lay, h1, h2, _, _, h5, h6⟩ := p_leastOf hn hv [s.Faults, s.Flaws] (by simp) (fun l hl => by
    simp only [List.mem_cons, List.not_mem_nil, or_false] at hl
    rcases hl with rfl | rfl
    · have := hv.fa.2.2; omega
    · have := hv.fl.2.2; omega) (fun l hl c hc => by
    simp only [List.mem_cons, List.not_mem_nil, or_false] at hl
    rcases hl with rfl | rfl
    · exact (hv.fa.1 c hc).1
    · exact (hv.fl.1 c hc).1)
  refine ⟨m, lay, ?_, h6⟩
  rw [F_lays_sure, p_LCheck0 (by omega) hv]
  simp only [Option.bind_some, h1, h2, h5, ans]
  rw [if_neg (by decide)]
  by_cases hm : m < 0
  · rw [decide_eq_true hm, if_pos hm, if_pos rfl]
    rcases h6 with ⟨h, _⟩ | ⟨_, e, _⟩
    · omega
    · rw [e]
  · rw [decide_eq_false hm, if_neg hm]; rfl
theorem p_Least (hn : 2000000 ≤ n) {s : Lap} (hv : VL s) : ∃ m lay, F_lays_Least n s = some (ans m) ∧ F_lays_Lay n s = some (lay, (ans m).2) ∧ LeastIs s (allB s) m lay := by
  obtain ⟨m, lay, h1, h2⟩ := p_sure hn hv
  exact ⟨m, lay, by rw [F_lays_Least, h1]; rfl, by rw [F_lays_Lay, h1]; rfl, h2⟩
theorem p_Hopes (hn : 2000000 ≤ n) {s : Lap} (hv : VL s) : ∃ m lay, F_lays_Hopes n s = some (ans m) ∧ LeastIs s (sureB s) m lay := by
  obtain ⟨tk, m, lay, h1, h2, _, _, h5, h6⟩ := p_leastOf hn hv [s.Faults] (by simp) (fun l hl => by
    simp only [List.mem_cons, List.not_mem_nil, or_false] at hl
    subst hl; have := hv.fa.2.2; omega) (fun l hl c hc => by
    simp only [List.mem_cons, List.not_mem_nil, or_false] at hl
    subst hl; exact (hv.fa.1 c hc).1)
  refine ⟨m, lay, ?_, h6⟩
  rw [F_lays_Hopes, p_LCheck0 (by omega) hv]
  simp only [Option.bind_some, h1, h2, h5, ans]
  rw [if_neg (by decide)]
  by_cases hm : m < 0
  · rw [decide_eq_true hm, if_pos hm, if_pos rfl]
  · rw [decide_eq_false hm, if_neg hm]; rfl
end
/-- fewer bad cells, or more rows: not less -/
theorem LeastIs.le {a b : Lap} {bad bad' : Int → Int → Prop} (hl : a.Length ≤ b.Length) (h : ∀ k, 0 ≤ k → Has a bad k → Has b bad' k) {m m' : Int} {lay lay' : List Place} (ha : LeastIs a bad m lay) (hb : LeastIs b bad' m' lay') (h0 : 0 ≤ m) : 0 ≤ m' ∧ m' ≤ m := by
  rcases ha with ⟨⟨_, h1⟩, h2, _⟩ | ⟨h1, _⟩
  · have hh := h m h0 ⟨lay, h2⟩
    rcases hb with ⟨⟨h3, _⟩, _, h4⟩ | ⟨_, _, h4⟩
    · refine ⟨h3, ?_⟩
      rcases Int.lt_or_le m m' with hlt | hle
      · exact absurd hh (h4 m h0 hlt)
      · exact hle
    · exact absurd hh (h4 m h0 (by omega))
  · omega
theorem LeastIs.m_eq {s : Lap} {bad : Int → Int → Prop} {m : Int} {lay : List Place} (h : LeastIs s bad m lay) : 0 ≤ m ∨ m = -1 := by
  rcases h with ⟨h, _⟩ | ⟨h, _⟩
  · exact .inl h.1
  · exact .inr h
theorem LeastIs.eq {a b : Lap} {bad bad' : Int → Int → Prop} (hl : a.Length = b.Length) (h : ∀ k, 0 ≤ k → (Has a bad k ↔ Has b bad' k)) {m m' : Int} {lay lay' : List Place} (ha : LeastIs a bad m lay) (hb : LeastIs b bad' m' lay') : m = m' := by
  rcases ha.m_eq with h0 | h0
  · have h1 := LeastIs.le (by omega) (fun k hk => (h k hk).1) ha hb h0
    have h2 := LeastIs.le (by omega) (fun k hk => (h k hk).2) hb ha h1.1
    omega
  · rcases hb.m_eq with h1 | h1
    · have h2 := LeastIs.le (by omega) (fun k hk => (h k hk).2) hb ha h1
      omega
    · omega
end Go.Proofs.Ytflhjlgimihmgaa
end
section
namespace Go.Dec
open Go Go.RowKit
theorem Kept.plain {H : Hp} {w w' : World} (h : Kept H w w') (hh : H.hole = none) : Below w.heap.size w w' :=
  ⟨h.below.os, h.below.tape, h.below.output, h.below.size, fun k hk => h.below.block k hk (fun I e => by rw [hh] at e; cases e)⟩
end Go.Dec
end
section
namespace Go.Proofs.Ytflhjlgimihmgaa
open Go Go.RowKit Go.Dec
set_option linter.unusedVariables false
def W_Cell (x : Cell) : Prop := I64 x.Row ∧ I64 x.Col
set_option maxRecDepth 100000 in
theorem o_Cell {T : Type} {enc : TypeId × Value → T} : Opens enc Try.prog 27 2 R_Cell W_Cell := by
  intro w base sp held fuel cs y h
  obtain ⟨xs, n, _, rfl, hl, hlen, hf⟩ := DataW.trod_struct Try.underlying27 h
  have hl2 : cs.length = 2 := hl.trans (by kernel_rfl)
  have hx : xs.length = 2 := hlen
  obtain ⟨c0, c1, rfl⟩ : ∃ c0 c1, cs = [c0, c1] := by
    match cs, hl2 with
    | [c0, c1], _ => exact ⟨_, _, rfl⟩
  have co3 : Try.prog.cellsOf 3 = 1 := by kernel_rfl
  have e0 : DataW.trod enc Try.prog w base sp held n 3 (([c0, c1].drop 0).take (Try.prog.cellsOf 3)) = xs[0]? := hf 0 _ rfl
  rw [co3] at e0
  obtain ⟨_, x0, r0, w0⟩ := (Opens.int (by kernel_rfl)) _ _ _ _ _ _ _ (e0.trans (List.getElem?_eq_getElem (by omega)))
  have e1 : DataW.trod enc Try.prog w base sp held n 3 (([c0, c1].drop 1).take (Try.prog.cellsOf 3)) = xs[1]? := hf 1 _ rfl
  rw [co3] at e1
  obtain ⟨_, x1, r1, w1⟩ := (Opens.int (by kernel_rfl)) _ _ _ _ _ _ _ (e1.trans (List.getElem?_eq_getElem (by omega)))
  have q0 : [c0] = [_] := r0
  cases q0
  have q1 : [c1] = [_] := r1
  cases q1
  exact ⟨rfl, ⟨x0, x1⟩, rfl, w0, w1⟩
def W_Span (x : Span) : Prop := I64 x.Low ∧ I64 x.High
set_option maxRecDepth 100000 in
theorem o_Span {T : Type} {enc : TypeId × Value → T} : Opens enc Try.prog 46 2 R_Span W_Span := by
  intro w base sp held fuel cs y h
  obtain ⟨xs, n, _, rfl, hl, hlen, hf⟩ := DataW.trod_struct Try.underlying46 h
  have hl2 : cs.length = 2 := hl.trans (by kernel_rfl)
  have hx : xs.length = 2 := hlen
  obtain ⟨c0, c1, rfl⟩ : ∃ c0 c1, cs = [c0, c1] := by
    match cs, hl2 with
    | [c0, c1], _ => exact ⟨_, _, rfl⟩
  have co3 : Try.prog.cellsOf 3 = 1 := by kernel_rfl
  have e0 : DataW.trod enc Try.prog w base sp held n 3 (([c0, c1].drop 0).take (Try.prog.cellsOf 3)) = xs[0]? := hf 0 _ rfl
  rw [co3] at e0
  obtain ⟨_, x0, r0, w0⟩ := (Opens.int (by kernel_rfl)) _ _ _ _ _ _ _ (e0.trans (List.getElem?_eq_getElem (by omega)))
  have e1 : DataW.trod enc Try.prog w base sp held n 3 (([c0, c1].drop 1).take (Try.prog.cellsOf 3)) = xs[1]? := hf 1 _ rfl
  rw [co3] at e1
  obtain ⟨_, x1, r1, w1⟩ := (Opens.int (by kernel_rfl)) _ _ _ _ _ _ _ (e1.trans (List.getElem?_eq_getElem (by omega)))
  have q0 : [c0] = [_] := r0
  cases q0
  have q1 : [c1] = [_] := r1
  cases q1
  exact ⟨rfl, ⟨x0, x1⟩, rfl, w0, w1⟩
def W_Panel (x : Panel) : Prop := (fun (l : List Span) => (∀ x ∈ l, W_Span x) ∧ l.length ≤ 9223372036854775807) x.Rows
set_option maxRecDepth 100000 in
theorem o_Panel {T : Type} {enc : TypeId × Value → T} : Opens enc Try.prog 30 1 R_Panel W_Panel := by
  intro w base sp held fuel cs y h
  obtain ⟨xs, n, _, rfl, hl, hlen, hf⟩ := DataW.trod_struct Try.underlying30 h
  have hl2 : cs.length = 1 := hl.trans (by kernel_rfl)
  have hx : xs.length = 1 := hlen
  obtain ⟨c0, rfl⟩ : ∃ c0, cs = [c0] := by
    match cs, hl2 with
    | [c0], _ => exact ⟨_, rfl⟩
  have co28 : Try.prog.cellsOf 28 = 1 := by kernel_rfl
  have e0 : DataW.trod enc Try.prog w base sp held n 28 (([c0].drop 0).take (Try.prog.cellsOf 28)) = xs[0]? := hf 0 _ rfl
  rw [co28] at e0
  obtain ⟨_, x0, r0, w0⟩ := (Opens.slice (e := 46) (sz := 2) (by kernel_rfl) (by kernel_rfl) rfl o_Span) _ _ _ _ _ _ _ (e0.trans (List.getElem?_eq_getElem (by omega)))
  obtain ⟨v0, q0, s0⟩ := r0
  have q0 : [c0] = [v0] := q0
  cases q0
  exact ⟨rfl, ⟨x0⟩, ⟨c0, rfl, s0⟩, w0⟩
def W_Lap (x : Lap) : Prop := I64 x.Width ∧ I64 x.Length ∧ (fun (l : List Cell) => (∀ x ∈ l, W_Cell x) ∧ l.length ≤ 9223372036854775807) x.Faults ∧ (fun (l : List Cell) => (∀ x ∈ l, W_Cell x) ∧ l.length ≤ 9223372036854775807) x.Flaws ∧ (fun (l : List Panel) => (∀ x ∈ l, W_Panel x) ∧ l.length ≤ 9223372036854775807) x.Panels
set_option maxRecDepth 100000 in
theorem o_Lap {T : Type} {enc : TypeId × Value → T} : Opens enc Try.prog 25 5 R_Lap W_Lap := by
  intro w base sp held fuel cs y h
  obtain ⟨xs, n, _, rfl, hl, hlen, hf⟩ := DataW.trod_struct Try.underlying25 h
  have hl2 : cs.length = 5 := hl.trans (by kernel_rfl)
  have hx : xs.length = 5 := hlen
  obtain ⟨c0, c1, c2, c3, c4, rfl⟩ : ∃ c0 c1 c2 c3 c4, cs = [c0, c1, c2, c3, c4] := by
    match cs, hl2 with
    | [c0, c1, c2, c3, c4], _ => exact ⟨_, _, _, _, _, rfl⟩
  have co3 : Try.prog.cellsOf 3 = 1 := by kernel_rfl
  have co22 : Try.prog.cellsOf 22 = 1 := by kernel_rfl
  have co23 : Try.prog.cellsOf 23 = 1 := by kernel_rfl
  have e0 : DataW.trod enc Try.prog w base sp held n 3 (([c0, c1, c2, c3, c4].drop 0).take (Try.prog.cellsOf 3)) = xs[0]? := hf 0 _ rfl
  rw [co3] at e0
  obtain ⟨_, x0, r0, w0⟩ := (Opens.int (by kernel_rfl)) _ _ _ _ _ _ _ (e0.trans (List.getElem?_eq_getElem (by omega)))
  have e1 : DataW.trod enc Try.prog w base sp held n 3 (([c0, c1, c2, c3, c4].drop 1).take (Try.prog.cellsOf 3)) = xs[1]? := hf 1 _ rfl
  rw [co3] at e1
  obtain ⟨_, x1, r1, w1⟩ := (Opens.int (by kernel_rfl)) _ _ _ _ _ _ _ (e1.trans (List.getElem?_eq_getElem (by omega)))
  have e2 : DataW.trod enc Try.prog w base sp held n 22 (([c0, c1, c2, c3, c4].drop 2).take (Try.prog.cellsOf 22)) = xs[2]? := hf 2 _ rfl
  rw [co22] at e2
  obtain ⟨_, x2, r2, w2⟩ := (Opens.slice (e := 27) (sz := 2) (by kernel_rfl) (by kernel_rfl) rfl o_Cell) _ _ _ _ _ _ _ (e2.trans (List.getElem?_eq_getElem (by omega)))
  have e3 : DataW.trod enc Try.prog w base sp held n 22 (([c0, c1, c2, c3, c4].drop 3).take (Try.prog.cellsOf 22)) = xs[3]? := hf 3 _ rfl
  rw [co22] at e3
  obtain ⟨_, x3, r3, w3⟩ := (Opens.slice (e := 27) (sz := 2) (by kernel_rfl) (by kernel_rfl) rfl o_Cell) _ _ _ _ _ _ _ (e3.trans (List.getElem?_eq_getElem (by omega)))
  have e4 : DataW.trod enc Try.prog w base sp held n 23 (([c0, c1, c2, c3, c4].drop 4).take (Try.prog.cellsOf 23)) = xs[4]? := hf 4 _ rfl
  rw [co23] at e4
  obtain ⟨_, x4, r4, w4⟩ := (Opens.slice (e := 30) (sz := 1) (by kernel_rfl) (by kernel_rfl) rfl o_Panel) _ _ _ _ _ _ _ (e4.trans (List.getElem?_eq_getElem (by omega)))
  have q0 : [c0] = [_] := r0
  cases q0
  have q1 : [c1] = [_] := r1
  cases q1
  obtain ⟨v2, q2, s2⟩ := r2
  have q2 : [c2] = [v2] := q2
  cases q2
  obtain ⟨v3, q3, s3⟩ := r3
  have q3 : [c3] = [v3] := q3
  cases q3
  obtain ⟨v4, q4, s4⟩ := r4
  have q4 : [c4] = [v4] := q4
  cases q4
  exact ⟨rfl, ⟨x0, x1, x2, x3, x4⟩, ⟨c2, c3, c4, rfl, s2, s3, s4⟩, w0, w1, w2, w3, w4⟩
end Go.Proofs.Ytflhjlgimihmgaa
end
section
namespace Go.Proofs.Ytflhjlgimihmgaa
open Go Go.RowKit Go.Dec
theorem works_ok : F_law03_works 2000000 = some true := by kernel_rfl
theorem W_Lap.np {s : Lap} (h : W_Lap s) : s.Panels.length ≤ 9223372036854775807 := h.2.2.2.2.2
theorem ans_ok {m : Int} (h : 0 ≤ m) : ans m = (m, 0) := by unfold ans; rw [if_neg (by omega)]
theorem ans_no {m : Int} (h : m = -1) : ans m = (0, 3) := by subst h; rfl
theorem allB_iff {s : Lap} {r c : Int} : allB s r c ↔ (⟨r, c⟩ : Cell) ∈ s.Faults ∨ (⟨r, c⟩ : Cell) ∈ s.Flaws := by
  constructor
  · rintro ⟨l, hl, hc⟩
    simp only [List.mem_cons, List.not_mem_nil, or_false] at hl
    rcases hl with rfl | rfl
    · exact .inl hc
    · exact .inr hc
  · rintro (h | h)
    · exact ⟨_, by simp, h⟩
    · exact ⟨s.Flaws, by simp, h⟩
theorem sureB_iff {s : Lap} {r c : Int} : sureB s r c ↔ (⟨r, c⟩ : Cell) ∈ s.Faults := by
  constructor
  · rintro ⟨l, hl, hc⟩
    simp only [List.mem_cons, List.not_mem_nil, or_false] at hl
    subst hl; exact hc
  · intro h; exact ⟨_, by simp, h⟩
theorem AreC.sub {s : Lap} {l l' o o' : List Cell} (h : AreC s l o) (hl : l'.Sublist l) (ho : ∀ c ∈ o', c ∈ o) : AreC s l' o' := ⟨fun c hc => ⟨(h.1 c (hl.subset hc)).1, fun h' => (h.1 c (hl.subset hc)).2 (ho c h')⟩, h.2.1.sublist hl, Nat.le_trans hl.length_le h.2.2⟩
/-- a list without its element i -/
def less (l : List Cell) (i : Nat) : List Cell := l.take i ++ l.drop (i + 1)
theorem less_sub (l : List Cell) (i : Nat) : (less l i).Sublist l := by
  have := (List.Sublist.refl (l.take i)).append (List.drop_sublist_drop_left l (show i ≤ i + 1 by omega))
  rwa [List.take_append_drop] at this
/-- a lap without one flaw -/
def lessF (s : Lap) (i : Nat) : Lap := ⟨s.Width, s.Length, s.Faults, less s.Flaws i, s.Panels⟩
theorem VL.lessF {s : Lap} (h : VL s) (i : Nat) : VL (lessF s i) := ⟨h.w, h.l, h.fa, h.fl.sub (less_sub _ _) (fun _ h => h), h.np, h.p⟩
theorem slc_less {l : List Cell} {i : Int} (h0 : 0 ≤ i) (h1 : i < l.length) (hl : l.length ≤ 1000) : slc l 0 i = some (l.take i.toNat) ∧ slc l (w64 (i + 1)) (l.length : Int) = some (l.drop (i.toNat + 1)) := by
  constructor
  · unfold slc; rw [if_pos ⟨by omega, by omega, by omega⟩]; simp
  · rw [w64_id (by omega) (by omega)]
    unfold slc
    rw [if_pos ⟨by omega, by omega, by omega⟩, Int.toNat_natCast, List.take_length, show (i + 1).toNat = i.toNat + 1 by omega]
end Go.Proofs.Ytflhjlgimihmgaa
end
section
namespace Go.Proofs.Ytflhjlgimihmgaa
open Go Go.RowKit Go.Dec
theorem nodup_le {α : Type} : ∀ {l m : List α}, l.Nodup → (∀ x ∈ l, x ∈ m) → l.length ≤ m.length
  | [], _, _, _ => Nat.zero_le _
  | x :: l, m, hl, h => by
    obtain ⟨s, t, rfl⟩ := List.append_of_mem (h x List.mem_cons_self)
    obtain ⟨h1, h2⟩ := List.nodup_cons.1 hl
    have := nodup_le (m := s ++ t) h2 fun y hy => by
      have := h y (List.mem_cons_of_mem _ hy)
      simp only [List.mem_append, List.mem_cons] at this ⊢
      rcases this with h' | rfl | h'
      · exact .inl h'
      · exact absurd hy h1
      · exact .inr h'
    simp only [List.length_append, List.length_cons] at this ⊢
    omega
theorem nodup_map {α β : Type} {f : α → β} {l : List α} (hf : ∀ x y, f x = f y → x = y) (h : l.Nodup) : (l.map f).Nodup := List.pairwise_map.2 (h.imp fun hne e => hne (hf _ _ e))
theorem span_nodup (a b : Int) : (span a b).Nodup := by
  unfold span
  refine nodup_map (fun x y h => ?_) List.nodup_range
  omega
/-- the cells of some rows, from a place on -/
def cellsL (col : Int) : Int → List Span → List Cell
  | _, [] => []
  | r, s :: l => (span s.Low s.High).map (fun c => (⟨r, col + c⟩ : Cell)) ++ cellsL col (r + 1) l
theorem cellsL_mem {col : Int} {c : Cell} : ∀ {rs : List Span} {r : Int}, c ∈ cellsL col r rs ↔ ∃ (k : Nat) (s : Span), rs[k]? = some s ∧ c.Row = r + k ∧ col + s.Low ≤ c.Col ∧ c.Col ≤ col + s.High
  | [], r => by simp [cellsL]
  | s :: l, r => by
    rw [cellsL, List.mem_append, cellsL_mem, List.mem_map]
    constructor
    · rintro (⟨x, hx, rfl⟩ | ⟨k, s', h1, h2, h3⟩)
      · have := span_mem'.1 hx
        exact ⟨0, s, rfl, by simp, by simp only; omega, by simp only; omega⟩
      · exact ⟨k + 1, s', h1, by omega, h3⟩
    · rintro ⟨k, s', h1, h2, h3, h4⟩
      cases k with
      | zero =>
        simp only [List.getElem?_cons_zero, Option.some.injEq] at h1
        subst h1
        exact .inl ⟨c.Col - col, span_mem'.2 ⟨by omega, by omega⟩, cell_ext (by simp only; omega) (by simp only; omega)⟩
      | succ k =>
        exact .inr ⟨k, s', by simpa using h1, by omega, h3, h4⟩
theorem cellsL_nodup {col : Int} : ∀ (rs : List Span) (r : Int), (cellsL col r rs).Nodup
  | [], _ => List.nodup_nil
  | s :: l, r => by
    rw [cellsL]
    refine List.nodup_append.2 ⟨nodup_map (fun x y h => by have := congrArg Cell.Col h; simp only at this; omega) (span_nodup _ _), cellsL_nodup l _, fun x hx y hy e => ?_⟩
    subst e
    obtain ⟨c, _, rfl⟩ := List.mem_map.1 hx
    obtain ⟨k, _, _, h, _⟩ := cellsL_mem.1 hy
    simp only at h; omega
theorem cov_cells {rs : List Span} {pl : Place} {r c : Int} : cov rs pl r c ↔ (⟨r, c⟩ : Cell) ∈ cellsL pl.Col pl.Row rs := (cellsL_mem (c := ⟨r, c⟩)).symm
/-- how many cells a list of rows has -/
def areaR : List Span → Nat
  | [] => 0
  | s :: l => (s.High + 1 - s.Low).toNat + areaR l
theorem cellsL_len (col : Int) : ∀ (rs : List Span) (r : Int), (cellsL col r rs).length = areaR rs
  | [], _ => rfl
  | s :: l, r => by rw [cellsL, List.length_append, List.length_map, span_len, cellsL_len col l, areaR]
theorem areaR_app : ∀ (l m : List Span), areaR (l ++ m) = areaR l + areaR m
  | [], m => by simp [areaR]
  | s :: l, m => by rw [List.cons_append, areaR, areaR, areaR_app l m]; omega
theorem areaR_turn (p : Panel) (t : Int) : areaR (rowsT p t) = areaR p.Rows := by
  unfold rowsT
  split
  · rfl
  · have : ∀ l : List Span, areaR (l.reverse.map fun s => (⟨wide p - s.High, wide p - s.Low⟩ : Span)) = areaR l := by
      intro l
      induction l with
      | nil => rfl
      | cons a l ih =>
        rw [List.reverse_cons, List.map_append, areaR_app, ih, areaR]
        simp only [List.map_cons, List.map_nil, areaR]
        have : (wide p - a.Low + 1 - (wide p - a.High)).toNat = (a.High + 1 - a.Low).toNat := by congr 1; omega
        omega
    exact this p.Rows
theorem areaR_le {rs : List Span} (h : ∀ s ∈ rs, 0 ≤ s.Low ∧ s.Low ≤ s.High ∧ s.High ≤ 7) : areaR rs ≤ 8 * rs.length := by
  induction rs with
  | nil => simp [areaR]
  | cons a l ih =>
    have h1 := h a List.mem_cons_self
    have h2 := ih fun s hs => h s (List.mem_cons_of_mem _ hs)
    rw [areaR, List.length_cons]; omega
def areaP (ps : List Panel) : Nat := (ps.map fun p => areaR p.Rows).sum
/-- the grid of n rows -/
def grid (n W : Nat) : List Cell := (List.range n).flatMap fun (r : Nat) => (List.range W).map fun (c : Nat) => (⟨(r : Int), (c : Int)⟩ : Cell)
theorem grid_len (n W : Nat) : (grid n W).length = n * W := by
  unfold grid
  rw [List.length_flatMap]
  simp only [List.length_map, List.length_range]
  induction n with
  | zero => simp
  | succ n ih => rw [List.range_succ, List.map_append, List.sum_append, ih]; simp [Nat.succ_mul]
theorem grid_mem {n W : Nat} {c : Cell} : c ∈ grid n W ↔ (0 ≤ c.Row ∧ c.Row < n) ∧ 0 ≤ c.Col ∧ c.Col < W := by
  unfold grid
  simp only [List.mem_flatMap, List.mem_map, List.mem_range]
  constructor
  · rintro ⟨r, hr, x, hx, rfl⟩
    exact ⟨⟨by simp only; omega, by simp only; omega⟩, by simp only; omega, by simp only; omega⟩
  · rintro ⟨⟨h1, h2⟩, h3, h4⟩
    exact ⟨c.Row.toNat, by omega, c.Col.toNat, by omega, cell_ext (by simp only; omega) (by simp only; omega)⟩
theorem grid_nodup (n W : Nat) : (grid n W).Nodup := by
  unfold grid
  induction n with
  | zero => simp
  | succ n ih =>
    rw [List.range_succ, List.flatMap_append]
    refine List.nodup_append.2 ⟨ih, ?_, fun x hx y hy e => ?_⟩
    · simp only [List.flatMap_cons, List.flatMap_nil, List.append_nil]
      exact nodup_map (fun x y h => by have := congrArg Cell.Col h; simp only at this; omega) List.nodup_range
    · subst e
      simp only [List.mem_flatMap, List.mem_map, List.mem_range] at hx
      obtain ⟨r, hr, c, _, rfl⟩ := hx
      simp only [List.flatMap_cons, List.flatMap_nil, List.append_nil, List.mem_map, List.mem_range] at hy
      obtain ⟨c', _, h⟩ := hy
      have := congrArg Cell.Row h
      simp only at this; omega
/-- panels beside some cells need room -/
theorem LayIn.count {W n : Nat} : ∀ {ps : List Panel} {pls : List Place} {bad : Int → Int → Prop} (B : List Cell), (∀ p ∈ ps, VPn p) → LayIn (W : Int) (n : Int) bad ps pls → B.Nodup → (∀ c ∈ B, bad c.Row c.Col ∧ c ∈ grid n W) → areaP ps + B.length ≤ n * W
  | [], [], bad, B, _, _, hB, h => by
    have := nodup_le hB fun c hc => (h c hc).2
    rw [grid_len] at this
    simpa [areaP] using this
  | p :: ps, pl :: pls, bad, B, hp, ⟨h1, h2, h3⟩, hB, h => by
    have hv := hp p List.mem_cons_self
    have hR := hv.turn pl.Turned
    have hin : ∀ c ∈ cellsL pl.Col pl.Row (rowsT p pl.Turned), c ∈ grid n W ∧ ¬ bad c.Row c.Col := fun c hc => by
      have hcov : cov (rowsT p pl.Turned) pl c.Row c.Col := cov_cells.2 hc
      obtain ⟨k1, k2, k3⟩ := h2 _ _ hcov
      obtain ⟨k, s, g1, g2, g3, g4⟩ := hcov
      have := hR.r s (List.mem_of_getElem? g1)
      have := h1.1; have := h1.2.1
      exact ⟨grid_mem.2 ⟨⟨by omega, k1⟩, by omega, k2⟩, k3⟩
    have := h3.count (cellsL pl.Col pl.Row (rowsT p pl.Turned) ++ B) (fun q hq => hp q (List.mem_cons_of_mem _ hq)) (List.nodup_append.2 ⟨cellsL_nodup _ _, hB, fun x hx y hy e => by
      subst e; exact (hin x hx).2 (h x hy).1⟩) (fun c hc => by
      rcases List.mem_append.1 hc with hc | hc
      · exact ⟨.inr (cov_cells.2 hc), (hin c hc).1⟩
      · exact ⟨.inl (h c hc).1, (h c hc).2⟩)
    rw [List.length_append, cellsL_len, areaR_turn] at this
    simp only [areaP, List.map_cons, List.sum_cons] at this ⊢
    omega
section
variable {n : Nat}
theorem p_TurnedRows (hn : 1000000 ≤ n) {p : Panel} (h : VPn p) : F_ref03_TurnedRows n p = some (rowsT p 1) := by
  rw [F_ref03_TurnedRows]
  have hl := h.n
  have h1 := (loop_fold (step := F_ref03_TurnedRows_s1 n p) p.Rows (fun i (z : Int) => (z, (i : Int))) (fun z s => max z s.High) (fun z => z) (fun _ _ => True) (n := n) 0 trivial (fun i x z hx _ => by
    have hi := (List.getElem?_eq_some_iff.1 hx).1
    refine ⟨?_, trivial⟩
    rw [F_ref03_TurnedRows_s1, dlt, decide_eq_true hi, geti_nat, hx]
    simp only [if_true, Option.bind_some, w64_nat (show i ≤ 4611686018427387904 by omega)]) (fun z _ => by rw [F_ref03_TurnedRows_s1, dlt]; simp) (by omega)).1
  rw [show ((0 : Int), (0 : Int)) = ((0 : Int), ((0 : Nat) : Int)) from rfl, h1]
  simp only [Option.bind_some]
  rw [show p.Rows.foldl (fun z s => max z s.High) 0 = wide p from rfl]
  obtain ⟨⟨w0, w7⟩, hw, _⟩ := h.wide
  have key : ∀ (k : Nat) (s : List Span) (n' : Nat), k ≤ p.Rows.length → s.length + k = p.Rows.length → k < n' → loopO n' (F_ref03_TurnedRows_s2 n p (wide p)) ((k : Int) - 1, s) = some (s ++ (p.Rows.take k).reverse.map fun s => (⟨wide p - s.High, wide p - s.Low⟩ : Span)) := by
    intro k
    induction k with
    | zero =>
      intro s n' _ _ hn'
      refine loop_done ?_ hn'
      rw [F_ref03_TurnedRows_s2]; simp
    | succ k ih =>
      intro s n' hk hs hn'
      obtain ⟨m, rfl⟩ : ∃ k, n' = k + 1 := ⟨n' - 1, by omega⟩
      have hlt : k < p.Rows.length := by omega
      have hx' := h.r p.Rows[k] (List.getElem_mem hlt)
      have hw' := hw p.Rows[k] (List.getElem_mem hlt)
      have e0 : ((k + 1 : Nat) : Int) - 1 = (k : Int) := by omega
      rw [loopO_succ, e0, F_ref03_TurnedRows_s2, if_pos (by simp), geti_nat, List.getElem?_eq_getElem hlt]
      simp only [Option.bind_some]
      rw [w64_id (by omega) (by omega), w64_id (by omega) (by omega), w64_id (show -9223372036854775808 ≤ (k : Int) - 1 by omega) (by omega), lim_ok (by rw [List.length_append]; simp; omega)]
      simp only [Option.bind_some]
      rw [ih _ m (by omega) (by rw [List.length_append]; simp; omega) (by omega), List.take_succ_eq_append_getElem hlt]
      simp only [List.reverse_append, List.reverse_cons, List.reverse_nil, List.nil_append, List.cons_append, List.map_cons, List.append_assoc]
  rw [w64_id (by omega) (by omega), key p.Rows.length [] n (Nat.le_refl _) (by simp) (by omega), List.take_length]
  simp only [Option.bind_some, List.nil_append, rowsT]
  rw [if_neg (by decide)]
theorem getElem_drop_cons {α : Type} {l : List α} {i : Nat} {x : α} (h : l[i]? = some x) : l.drop i = x :: l.drop (i + 1) := by
  obtain ⟨h1, h2⟩ := List.getElem?_eq_some_iff.1 h
  rw [List.drop_eq_getElem_cons h1, h2]
/-- cells row by row: what both loops do -/
theorem cells_loop {S : Type} {step : S → Option (S ⊕ List Cell)} (enc : Nat → List Cell → S) (rs : List Span) (R C : Int) {n : Nat} (hlen : rs.length ≤ 4) (hr : ∀ s ∈ rs, 0 ≤ s.Low ∧ s.Low ≤ s.High ∧ s.High ≤ 7)
    (h : ∀ k s out, rs[k]? = some s → out.length ≤ 8 * k → step (enc k out) = some (.inl (enc (k + 1) (out ++ (span s.Low s.High).map fun c => (⟨R + k, C + c⟩ : Cell))))) (hd : ∀ out, step (enc rs.length out) = some (.inr out)) (hn : 5 < n) : loopO n step (enc 0 []) = some (cellsL C R rs) := by
  have key : ∀ (m k : Nat) (out : List Cell) (n : Nat), k + m = rs.length → out.length ≤ 8 * k → m < n → loopO n step (enc k out) = some (out ++ cellsL C (R + k) (rs.drop k)) := by
    intro m
    induction m with
    | zero =>
      intro k out n hk _ hn
      obtain rfl : k = rs.length := by omega
      rw [loop_done (hd out) hn, List.drop_length, cellsL, List.append_nil]
    | succ m ih =>
      intro k out n hk ho hn
      obtain ⟨n', rfl⟩ : ∃ k, n = k + 1 := ⟨n - 1, by omega⟩
      obtain ⟨s, hs⟩ : ∃ s, rs[k]? = some s := ⟨_, List.getElem?_eq_getElem (by omega)⟩
      have hs' := hr s (List.mem_of_getElem? hs)
      rw [loopO_succ, h k s out hs ho, getElem_drop_cons hs, cellsL]
      simp only
      rw [ih (k + 1) _ n' (by omega) (by rw [List.length_append, List.length_map, span_len]; omega) (by omega), List.append_assoc, show R + ((k + 1 : Nat) : Int) = R + k + 1 by omega]
  have := key rs.length 0 [] n (by omega) (by simp) (by omega)
  rw [this, List.drop_zero, List.nil_append, Int.natCast_zero, Int.add_zero]
/-- cells of one row: what both loops do -/
theorem row_loop {step : Int × List Cell → Option ((Int × List Cell) ⊕ List Cell)} (hi R C : Int)
    (h : ∀ c out, 0 ≤ c → c ≤ hi → out.length ≤ 1000 → step (c, out) = some (.inl (c + 1, out ++ [(⟨R, C + c⟩ : Cell)]))) (hd : ∀ c out, hi < c → step (c, out) = some (.inr out)) : ∀ (k : Nat) (lo : Int) (out : List Cell) (n : Nat), (hi + 1 - lo).toNat = k → 0 ≤ lo → out.length + k ≤ 1000 → k < n →
    loopO n step (lo, out) = some (out ++ (span lo hi).map fun c => (⟨R, C + c⟩ : Cell)) := by
  intro k
  induction k with
  | zero =>
    intro lo out n hk _ _ hn
    rw [span_nil (by omega), loop_done (hd lo out (by omega)) hn]; simp
  | succ k ih =>
    intro lo out n hk h0 ho hn
    obtain ⟨m, rfl⟩ : ∃ k, n = k + 1 := ⟨n - 1, by omega⟩
    rw [loopO_succ, h lo out h0 (by omega) (by omega), span_cons (by omega)]
    simp only
    rw [ih (lo + 1) _ m (by omega) (by omega) (by rw [List.length_append]; simp; omega) (by omega)]
    simp
theorem p_CellsOf (hn : 1000000 ≤ n) {p : Panel} (hv : VPn p) {pl : Place} (hpl : PlOK pl) (hb : pl.Row ≤ 100 ∧ pl.Col ≤ 100) : F_ref03_CellsOf n p pl = some (cellsL pl.Col pl.Row (rowsT p pl.Turned)) := by
  rw [F_ref03_CellsOf]
  have e : (if (pl.Turned == 1) = true then ((F_ref03_TurnedRows n p).bind fun y10 => some y10) else (some p.Rows)) = some (rowsT p pl.Turned) := by
    rcases hpl.2.2 with h | h
    · rw [h]; rfl
    · rw [h, p_TurnedRows hn hv]; rfl
  rw [e]
  simp only [Option.bind_some]
  have hR := hv.turn pl.Turned
  generalize rowsT p pl.Turned = rs at hR
  obtain ⟨hRn, hRr, _⟩ := hR
  simp only at hRn hRr
  obtain ⟨h0, h1, _⟩ := hpl
  have := cells_loop (step := F_ref03_CellsOf_s1 n pl rs) (fun k out => ((k : Int), out)) rs pl.Row pl.Col (n := n) (by omega) hRr (fun k s out hs ho => by
    have hk := (List.getElem?_eq_some_iff.1 hs).1
    have hs' := hRr s (List.mem_of_getElem? hs)
    have hrow := row_loop (step := F_ref03_CellsOf_s2 n pl rs (k : Int)) s.High (pl.Row + k) pl.Col (fun c out hc0 hc ho => by
      rw [F_ref03_CellsOf_s2, geti_nat, hs]
      simp only [Option.bind_some]
      rw [decide_eq_true hc, if_pos rfl, w64_id (by omega) (by omega), w64_id (by omega) (by omega), w64_id (show -9223372036854775808 ≤ c + 1 by omega) (by omega), lim_ok (by rw [List.length_append]; simp; omega)]
      rfl) (fun c out hc => by
      rw [F_ref03_CellsOf_s2, geti_nat, hs]
      simp only [Option.bind_some]
      rw [decide_eq_false (by omega)]; rfl) _ s.Low out n rfl hs'.1 (by omega) (by omega)
    rw [F_ref03_CellsOf_s1, dlt, decide_eq_true hk, geti_nat, hs]
    simp only [if_true, Option.bind_some, hrow, w64_nat (show k ≤ 4611686018427387904 by omega)]) (fun out => by rw [F_ref03_CellsOf_s1, dlt]; simp) (by omega)
  rw [show ((0 : Int), ([] : List Cell)) = (((0 : Nat) : Int), ([] : List Cell)) from rfl, this]
  rfl
theorem p_covered (hn : 1000000 ≤ n) {p : Panel} (hv : VPn p) {pl : Place} (hpl : PlOK pl) (hb : pl.Row ≤ 100 ∧ pl.Col ≤ 100) : F_lays_covered n p pl = some (cellsL pl.Col pl.Row (rowsT p pl.Turned)) := by
  rw [F_lays_covered, p_rows hn hv]
  simp only [Option.bind_some]
  have hR := hv.turn pl.Turned
  generalize rowsT p pl.Turned = rs at hR
  obtain ⟨hRn, hRr, _⟩ := hR
  simp only at hRn hRr
  obtain ⟨h0, h1, _⟩ := hpl
  have := cells_loop (step := F_lays_covered_s1 n pl rs) (fun k out => ((k : Int), out)) rs pl.Row pl.Col (n := n) (by omega) hRr (fun k s out hs ho => by
    have hk := (List.getElem?_eq_some_iff.1 hs).1
    have hs' := hRr s (List.mem_of_getElem? hs)
    have hrow := row_loop (step := F_lays_covered_s2 n pl (k : Int) s) s.High (pl.Row + k) pl.Col (fun c out hc0 hc ho => by
      rw [F_lays_covered_s2, decide_eq_true hc, if_pos rfl, w64_id (by omega) (by omega), w64_id (by omega) (by omega), w64_id (show -9223372036854775808 ≤ c + 1 by omega) (by omega), lim_ok (by rw [List.length_append]; simp; omega)]
      rfl) (fun c out hc => by
      rw [F_lays_covered_s2, decide_eq_false (by omega)]; rfl) _ s.Low out n rfl hs'.1 (by omega) (by omega)
    rw [F_lays_covered_s1, dlt, decide_eq_true hk, geti_nat, hs]
    simp only [if_true, Option.bind_some, hrow, w64_nat (show k ≤ 4611686018427387904 by omega)]) (fun out => by rw [F_lays_covered_s1, dlt]; simp) (by omega)
  rw [show ((0 : Int), ([] : List Cell)) = (((0 : Nat) : Int), ([] : List Cell)) from rfl, this]
  rfl
theorem PlOK.zero : PlOK ⟨0, 0, 0⟩ := ⟨Int.le_refl _, Int.le_refl _, .inl rfl⟩
theorem sum_foldl : ∀ (ps : List Panel) (a : Int), ps.foldl (fun z p => z + (areaR p.Rows : Int)) a = a + (areaP ps : Nat)
  | [], a => by simp [areaP]
  | p :: ps, a => by
    rw [List.foldl_cons, sum_foldl ps]
    simp only [areaP, List.map_cons, List.sum_cons]; omega
theorem p_all (hn : 1000000 ≤ n) {s : Lap} (hv : VL s) : loopO n (F_lays_Waste_s1 n s) (0, 0) = some ((areaP s.Panels : Nat) : Int) := by
  have hnp := hv.np
  have h := (loop_fold (step := F_lays_Waste_s1 n s) s.Panels (fun i (z : Int) => (z, (i : Int))) (fun z p => z + (areaR p.Rows : Int)) (fun z => z) (fun i z => 0 ≤ z ∧ z ≤ 32 * i) (n := n) 0 ⟨by omega, by omega⟩ (fun i x z hx hI => by
    have hi := (List.getElem?_eq_some_iff.1 hx).1
    have hvp := hv.p x (List.mem_of_getElem? hx)
    have ha := areaR_le hvp.r
    have hxn := hvp.n
    rw [F_lays_Waste_s1, dlt, decide_eq_true hi, geti_nat, hx]
    simp only [if_true, Option.bind_some, p_covered hn hvp PlOK.zero (by decide), w64_nat (show i ≤ 4611686018427387904 by omega)]
    rw [cellsL_len, show rowsT x 0 = x.Rows from rfl, w64_id (by omega) (by omega)]
    exact ⟨rfl, by omega, by omega⟩) (fun z _ => by rw [F_lays_Waste_s1, dlt]; simp) (by omega)).1
  rw [show ((0 : Int), (0 : Int)) = ((0 : Int), ((0 : Nat) : Int)) from rfl, h, sum_foldl]
  simp
theorem areaP_le {ps : List Panel} (h : ∀ p ∈ ps, VPn p) : areaP ps ≤ 32 * ps.length := by
  induction ps with
  | nil => simp [areaP]
  | cons p ps ih =>
    have h1 := areaR_le (h p List.mem_cons_self).r
    have h2 := (h p List.mem_cons_self).n
    have h3 := ih fun q hq => h q (List.mem_cons_of_mem _ hq)
    simp only [areaP, List.map_cons, List.sum_cons, List.length_cons] at h3 ⊢
    omega
theorem sure_all {s : Lap} (r c : Int) (h : sureB s r c) : allB s r c := allB_iff.2 (.inl (sureB_iff.1 h))
/-- what is not covered, if there is a lay -/
theorem p_Waste (hn : 2000000 ≤ n) {s : Lap} (hv : VL s) {m q : Int} {lm lq : List Place} (e1 : F_lays_Least n s = some (ans m)) (e2 : F_lays_Hopes n s = some (ans q)) (hm : LeastIs s (allB s) m lm) (hq : LeastIs s (sureB s) q lq) :
    F_lays_Waste n s = some (if 0 ≤ m then (⟨s.Width * q - areaP s.Panels, s.Width * m - areaP s.Panels⟩, 0) else (⟨0, 0⟩, 3)) ∧ (0 ≤ m → 0 ≤ q ∧ q ≤ m ∧ 0 ≤ s.Width * q - areaP s.Panels) := by
  have hW := hv.w
  have hL := hv.l
  have hA := areaP_le hv.p
  have hnp := hv.np
  rw [F_lays_Waste, e1]
  simp only [Option.bind_some]
  rcases hm.m_eq with h0 | h0
  · rw [ans_ok h0, if_pos h0, e2]
    obtain ⟨q0, qm⟩ := LeastIs.le (Int.le_refl _) (fun k _ h => h.mono (Int.le_refl _) sure_all) hm hq h0
    have hmL : m ≤ s.Length := by
      rcases hm with ⟨⟨_, h⟩, _⟩ | ⟨h, _⟩
      · exact h
      · omega
    have hcnt : (areaP s.Panels : Int) ≤ s.Width * q := by
      rcases hq with ⟨_, h, _⟩ | ⟨h, _⟩
      · obtain ⟨W, hW'⟩ : ∃ W : Nat, s.Width = W := ⟨s.Width.toNat, by omega⟩
        obtain ⟨Q, hQ'⟩ : ∃ Q : Nat, q = Q := ⟨q.toNat, by omega⟩
        rw [hW', hQ'] at h ⊢
        have := h.count [] hv.p List.nodup_nil (by simp)
        simp only [List.length_nil, Nat.add_zero] at this
        rw [Nat.mul_comm] at this
        exact_mod_cast this
      · omega
    obtain ⟨g1, g2⟩ := mul_in (x := s.Width) (y := m) (A := 8) (C := 12) (by omega) (by omega) (by omega) (by omega)
    obtain ⟨g3, g4⟩ := mul_in (x := s.Width) (y := q) (A := 8) (C := 12) (by omega) (by omega) (by omega) (by omega)
    rw [ans_ok q0]
    simp only [Option.bind_some, p_all (show 1000000 ≤ n by omega) hv]
    refine ⟨?_, fun _ => ⟨q0, qm, by omega⟩⟩
    rw [w64_id (show -9223372036854775808 ≤ s.Width * q by omega) (by omega), w64_id (show -9223372036854775808 ≤ s.Width * m by omega) (by omega), w64_id (by omega) (by omega), w64_id (by omega) (by omega)]
    rfl
  · rw [ans_no h0, if_neg (show ¬ 0 ≤ m by omega)]
    exact ⟨rfl, fun h => by omega⟩
end
end Go.Proofs.Ytflhjlgimihmgaa
end
section
namespace Go.Proofs.Ytflhjlgimihmgaa
open Go Go.RowKit Go.Dec
def IsPl (p : Place) : Prop := (0 ≤ p.Row ∧ p.Row ≤ 12) ∧ (0 ≤ p.Col ∧ p.Col ≤ 12) ∧ 0 ≤ p.Turned ∧ p.Turned ≤ 1
theorem IsPl.ok {p : Place} (h : IsPl p) : PlOK p := ⟨h.1.1, h.2.1.1, by have := h.2.2; omega⟩
/-- cells that are bad, or used -/
def inL (l : List Cell) (r c : Int) : Prop := (⟨r, c⟩ : Cell) ∈ l
section
variable {n : Nat}
theorem p_IsPlace (p : Place) : ∃ b, F_ref03_IsPlace n p = some b ∧ (b = true ↔ IsPl p) := by
  refine ⟨((decide (0 ≤ p.Row) && decide (p.Row ≤ 12)) && (decide (0 ≤ p.Col) && decide (p.Col ≤ 12))) && (decide (0 ≤ p.Turned) && decide (p.Turned ≤ 1)), ?_, by simp [IsPl, and_assoc]⟩
  rw [F_ref03_IsPlace, p_within, p_within, p_within]
  cases (decide (0 ≤ p.Row) && decide (p.Row ≤ 12)) <;> cases (decide (0 ≤ p.Col) && decide (p.Col ≤ 12)) <;> rfl
/-- one panel: all of its cells are free, and so many rows -/
theorem p_Rows2 (hn : 1000000 ≤ n) {s : Lap} (hv : VL s) (bad used l : List Cell) (hb : bad.length ≤ 10000) (hu : used.length ≤ 10000) (hl : l.length ≤ 100) (rows : Int) (h0 : 0 ≤ rows ∧ rows ≤ 12) :
    ∃ r, loopO n (F_ref03_Rows_s2 n s bad used l) (rows, 0) = some r ∧ (match r with | .inl o => o = .inr (.inl (-1)) ∧ ¬ (∀ c ∈ l, InC s c ∧ c ∉ bad ∧ c ∉ used) | .inr k => (∀ c ∈ l, InC s c ∧ c ∉ bad ∧ c ∉ used) ∧ (rows ≤ k ∧ k ≤ 12) ∧ ∀ j : Int, rows ≤ j → (k ≤ j ↔ ∀ c ∈ l, c.Row < j)) := by
  have hL := hv.l
  refine loop_list (step := F_ref03_Rows_s2 n s bad used l) l (fun i (z : Int) => (z, (i : Int))) (fun i z => (∀ j x, j < i → l[j]? = some x → InC s x ∧ x ∉ bad ∧ x ∉ used) ∧ (rows ≤ z ∧ z ≤ 12) ∧ ∀ t : Int, rows ≤ t → (z ≤ t ↔ ∀ j x, j < i → l[j]? = some x → x.Row < t))
    (fun r => match r with | .inl o => o = .inr (.inl (-1)) ∧ ¬ (∀ c ∈ l, InC s c ∧ c ∉ bad ∧ c ∉ used) | .inr k => (∀ c ∈ l, InC s c ∧ c ∉ bad ∧ c ∉ used) ∧ (rows ≤ k ∧ k ≤ 12) ∧ ∀ j : Int, rows ≤ j → (k ≤ j ↔ ∀ c ∈ l, c.Row < j)) (n := n) rows
    ⟨by intro j x h; omega, ⟨Int.le_refl _, h0.2⟩, fun t ht => ⟨fun _ j x h => by omega, fun _ => ht⟩⟩ (fun i x z hx hI => ?_) (fun z hI => ?_) (by omega)
  · have hi := (List.getElem?_eq_some_iff.1 hx).1
    obtain ⟨hall, hz, hiff⟩ := hI
    rw [F_ref03_Rows_s2, dlt, decide_eq_true hi, geti_nat, hx]
    simp only [if_true, Option.bind_some, p_IsCell hv.l hv.w, p_In hn bad hb, p_In hn used hu, w64_nat (show i ≤ 4611686018427387904 by omega)]
    by_cases hok : InC s x ∧ x ∉ bad ∧ x ∉ used
    · rw [cellB_t.2 hok.1, inB_f.2 hok.2.1, inB_f.2 hok.2.2]
      obtain ⟨⟨r0, r1⟩, _⟩ := hok.1
      refine .inl ⟨max z (x.Row + 1), ?_, fun j y hj hy => ?_, ⟨by omega, by omega⟩, fun t ht => ?_⟩
      · simp only [Bool.not_true, Bool.false_eq_true, if_false, Option.bind_some]
        rw [w64_id (show -9223372036854775808 ≤ x.Row + 1 by omega) (by omega)]
      · rcases Nat.lt_or_ge j i with h | h
        · exact hall j y h hy
        · obtain rfl : j = i := by omega
          rw [hx] at hy; cases hy; exact hok
      · constructor
        · intro h j y hj hy
          rcases Nat.lt_or_ge j i with h' | h'
          · exact (hiff t ht).1 (by omega) j y h' hy
          · obtain rfl : j = i := by omega
            rw [hx] at hy; cases hy; omega
        · intro h
          have h1 := (hiff t ht).2 fun j y hj hy => h j y (by omega) hy
          have h2 := h i x (by omega) hx
          omega
    · refine .inr ⟨.inl (.inr (.inl (-1))), ?_, rfl, fun h => hok (h x (List.mem_of_getElem? hx))⟩
      cases h1 : cellB s x with
      | false => rfl
      | true =>
        cases h2 : inB bad x with
        | true => rfl
        | false =>
          cases h3 : inB used x with
          | true => rfl
          | false => exact absurd ⟨cellB_t.1 h1, inB_f.1 h2, inB_f.1 h3⟩ hok
  · refine ⟨.inr z, by rw [F_ref03_Rows_s2, dlt]; simp, fun c hc => ?_, hI.2.1, fun j hj => (hI.2.2 j hj).trans ⟨fun h c hc => ?_, fun h k x _ hk => h x (List.mem_of_getElem? hk)⟩⟩
    · obtain ⟨j, hj⟩ := List.mem_iff_getElem?.1 hc
      exact hI.1 j c (List.getElem?_eq_some_iff.1 hj).1 hj
    · obtain ⟨k, hk⟩ := List.mem_iff_getElem?.1 hc
      exact h k c (List.getElem?_eq_some_iff.1 hk).1 hk
theorem fits_iff {s : Lap} {bad used : List Cell} {rs : List Span} {pl : Place} (hr : ∀ s ∈ rs, 0 ≤ s.Low ∧ s.Low ≤ s.High ∧ s.High ≤ 7) (hpl : PlOK pl) (j : Int) : Fits s.Width j (fun r c => inL bad r c ∨ inL used r c) rs pl ↔ ∀ c ∈ cellsL pl.Col pl.Row rs, c.Row < j ∧ c.Col < s.Width ∧ c ∉ bad ∧ c ∉ used := by
  constructor
  · intro h c hc
    obtain ⟨h1, h2, h3⟩ := h c.Row c.Col (cov_cells.2 hc)
    exact ⟨h1, h2, fun hb => h3 (.inl hb), fun hb => h3 (.inr hb)⟩
  · intro h r c hc
    obtain ⟨h1, h2, h3, h4⟩ := h _ (cov_cells.1 hc)
    exact ⟨h1, h2, fun hb => hb.elim h3 h4⟩
theorem p_Rows (hn : 1000000 ≤ n) {s : Lap} (hv : VL s) (bad : List Cell) (hb : bad.length ≤ 1000) (lay : List Place) (hlay : lay.length ≤ 20) (hpl : ∀ p ∈ lay, IsPl p) :
    ∃ k, F_ref03_Rows n s bad lay = some k ∧ ((k = -1 ∧ ¬ LayIn s.Width s.Length (inL bad) s.Panels lay) ∨ ((0 ≤ k ∧ k ≤ s.Length) ∧ ∀ j, 0 ≤ j → (LayIn s.Width j (inL bad) s.Panels lay ↔ k ≤ j))) := by
  have hL := hv.l
  have hnp := hv.np
  rw [F_ref03_Rows]
  by_cases hlen : lay.length = s.Panels.length
  · rw [if_neg (by simp; omega)]
    have key : ∀ (m i : Nat) (rows : Int) (used : List Cell) (n' : Nat), i + m = lay.length → (0 ≤ rows ∧ rows ≤ s.Length) → used.length ≤ 32 * i → m < n' →
        ∃ r, loopO n' (F_ref03_Rows_s1 n s bad lay) (rows, (i : Int), used) = some r ∧ (match r with | .inl k => k = -1 ∧ ¬ LayIn s.Width s.Length (fun r c => inL bad r c ∨ inL used r c) (s.Panels.drop i) (lay.drop i) | .inr k => (rows ≤ k ∧ k ≤ s.Length) ∧ ∀ j, rows ≤ j → (LayIn s.Width j (fun r c => inL bad r c ∨ inL used r c) (s.Panels.drop i) (lay.drop i) ↔ k ≤ j)) := by
      intro m
      induction m with
      | zero =>
        intro i rows used n' hi h0 hu hn'
        obtain rfl : i = lay.length := by omega
        refine ⟨.inr rows, loop_done (by rw [F_ref03_Rows_s1, dlt]; simp) hn', ⟨Int.le_refl _, h0.2⟩, fun j hj => ?_⟩
        rw [List.drop_length, hlen, List.drop_length]
        exact iff_of_true trivial hj
      | succ m ih =>
        intro i rows used n' hi h0 hu hn'
        obtain ⟨n', rfl⟩ : ∃ k, n' = k + 1 := ⟨n' - 1, by omega⟩
        obtain ⟨pl, hp⟩ : ∃ p, lay[i]? = some p := ⟨_, List.getElem?_eq_getElem (by omega)⟩
        obtain ⟨pa, hpa⟩ : ∃ p, s.Panels[i]? = some p := ⟨_, List.getElem?_eq_getElem (by omega)⟩
        have hvp := hv.p pa (List.mem_of_getElem? hpa)
        have hpp := hpl pl (List.mem_of_getElem? hp)
        have hR := hvp.turn pl.Turned
        have hcl : (cellsL pl.Col pl.Row (rowsT pa pl.Turned)).length ≤ 32 := by
          rw [cellsL_len, areaR_turn]
          have := areaR_le hvp.r
          have := hvp.n
          omega
        obtain ⟨r, hr, h⟩ := p_Rows2 hn hv bad used (cellsL pl.Col pl.Row (rowsT pa pl.Turned)) (by omega) (by omega) (by omega) rows ⟨h0.1, by omega⟩
        rw [loopO_succ, F_ref03_Rows_s1, dlt, decide_eq_true (show i < lay.length by omega), geti_nat, geti_nat, hpa, hp]
        have hb1 := hpp.1.2; have hb2 := hpp.2.1.2
        simp only [if_true, Option.bind_some, p_CellsOf hn hvp hpp.ok ⟨by omega, by omega⟩, hr]
        rw [getElem_drop_cons hpa, getElem_drop_cons hp]
        cases r with
        | inl o =>
          obtain ⟨rfl, hno⟩ := h
          refine ⟨.inl (-1), rfl, rfl, fun hLay => hno fun c hc => ?_⟩
          obtain ⟨k1, k2, k3, k4⟩ := (fits_iff hR.r hpp.ok _).1 hLay.2.1 c hc
          obtain ⟨t, sp, g1, g2, g3, g4⟩ := cellsL_mem.1 hc
          have := hR.r sp (List.mem_of_getElem? g1)
          have := hpp.1.1; have := hpp.2.1.1
          exact ⟨⟨⟨by omega, by omega⟩, by omega, by omega⟩, k3, k4⟩
        | inr k =>
          obtain ⟨hall, hk, hiff⟩ := h
          simp only
          rw [lim_ok (by rw [List.length_append]; omega)]
          simp only [Option.bind_some, w64_nat (show i ≤ 4611686018427387904 by omega)]
          have hkL : k ≤ s.Length := by
            have := (hiff s.Length h0.2).2 fun c hc => by have := (hall c hc).1.1; omega
            exact this
          obtain ⟨r', hr', h'⟩ := ih (i + 1) k (used ++ cellsL pl.Col pl.Row (rowsT pa pl.Turned)) n' (by omega) ⟨by omega, hkL⟩ (by rw [List.length_append]; omega) (by omega)
          refine ⟨r', hr', ?_⟩
          have conv : ∀ j, LayIn s.Width j (fun r c => inL bad r c ∨ inL (used ++ cellsL pl.Col pl.Row (rowsT pa pl.Turned)) r c) (s.Panels.drop (i + 1)) (lay.drop (i + 1)) ↔ LayIn s.Width j (fun r c => (inL bad r c ∨ inL used r c) ∨ cov (rowsT pa pl.Turned) pl r c) (s.Panels.drop (i + 1)) (lay.drop (i + 1)) := fun j => by
            have e : ∀ r c, (inL bad r c ∨ inL (used ++ cellsL pl.Col pl.Row (rowsT pa pl.Turned)) r c) ↔ ((inL bad r c ∨ inL used r c) ∨ cov (rowsT pa pl.Turned) pl r c) := fun r c => by
              rw [cov_cells, or_assoc]
              exact or_congr Iff.rfl List.mem_append
            exact ⟨fun h => h.mono (Int.le_refl _) fun r c => (e r c).2, fun h => h.mono (Int.le_refl _) fun r c => (e r c).1⟩
          have fit : ∀ j, rows ≤ j → (Fits s.Width j (fun r c => inL bad r c ∨ inL used r c) (rowsT pa pl.Turned) pl ↔ k ≤ j) := fun j hj => by
            rw [hiff j hj, fits_iff hR.r hpp.ok]
            exact ⟨fun h c hc => (h c hc).1, fun h c hc => ⟨h c hc, by have := (hall c hc).1.2; omega, (hall c hc).2⟩⟩
          cases r' with
          | inl k' =>
            obtain ⟨e1, hno⟩ := h'
            exact ⟨e1, fun hLay => hno ((conv _).2 hLay.2.2)⟩
          | inr k' =>
            obtain ⟨⟨g1, g2⟩, g3⟩ := h'
            refine ⟨⟨by omega, g2⟩, fun j hj => ?_⟩
            constructor
            · intro hLay
              have h1 := (fit j hj).1 hLay.2.1
              exact (g3 j h1).1 ((conv j).2 hLay.2.2)
            · intro h1
              exact ⟨hpp.ok, (fit j hj).2 (by omega), (conv j).1 ((g3 j (by omega)).2 h1)⟩
    obtain ⟨r, hr, h⟩ := key lay.length 0 0 [] n (by omega) ⟨Int.le_refl _, by omega⟩ (by simp) (by omega)
    rw [show ((0 : Int), (0 : Int), ([] : List Cell)) = ((0 : Int), ((0 : Nat) : Int), ([] : List Cell)) from rfl, hr]
    have conv : ∀ j, LayIn s.Width j (fun r c => inL bad r c ∨ inL [] r c) s.Panels lay ↔ LayIn s.Width j (inL bad) s.Panels lay := fun j => ⟨fun h => h.mono (Int.le_refl _) fun r c h => .inl h, fun h => h.mono (Int.le_refl _) fun r c h => h.elim id fun h => by cases h⟩
    simp only [List.drop_zero, conv] at h
    cases r with
    | inl k => exact ⟨k, rfl, .inl h⟩
    | inr k => exact ⟨k, rfl, .inr h⟩
  · rw [if_pos (by simp; omega)]
    exact ⟨-1, rfl, .inl ⟨rfl, fun h => hlen h.len⟩⟩
/-- the statement's own: .. and all of them are places -/
theorem p_rowsLaw (hn : 1000000 ≤ n) {s : Lap} (hv : VL s) (lay : List Place) (hlay : lay.length ≤ 20) (hpl : ∀ p ∈ lay, IsPl p) : F_law03_rows n s lay = F_ref03_Rows n s (s.Faults ++ s.Flaws) lay := by
  rw [F_law03_rows]
  have h := loop_all_l (step := F_law03_rows_s1 n lay) lay (fun _ => true) (-1 : Int) (n := n) (by omega) (fun i x hx hi => by
    obtain ⟨b, e, q⟩ := p_IsPlace (n := n) x
    rw [F_law03_rows_s1, dlt, decide_eq_true hi, geti_nat, hx]
    simp only [if_true, Option.bind_some, e, q.2 (hpl x (List.mem_of_getElem? hx)), w64_nat (show i ≤ 4611686018427387904 by omega)]
    rfl) (by rw [F_law03_rows_s1, dlt]; simp) (by omega)
  have e : lay.all (fun _ => true) = true := by simp
  rw [h, e]
  have h1 := hv.fa.2.2
  have h2 := hv.fl.2.2
  simp only [cond_true, Option.bind_some, List.nil_append]
  rw [lim_ok (by omega)]
  simp only [Option.bind_some]
  rw [lim_ok (by rw [List.length_append]; omega)]
  simp only [Option.bind_some]
  cases F_ref03_Rows n s (s.Faults ++ s.Flaws) lay <;> rfl
theorem inL_all {s : Lap} (r c : Int) : inL (s.Faults ++ s.Flaws) r c ↔ allB s r c := by
  rw [allB_iff]; exact List.mem_append
theorem inL_sure {s : Lap} (r c : Int) : inL s.Faults r c ↔ sureB s r c := by
  rw [sureB_iff]; exact Iff.rfl
theorem LayIn.congr {W n : Int} {ps : List Panel} {pls : List Place} {bad bad' : Int → Int → Prop} (h : ∀ r c, bad r c ↔ bad' r c) : LayIn W n bad ps pls ↔ LayIn W n bad' ps pls := ⟨fun k => k.mono (Int.le_refl _) fun r c => (h r c).2, fun k => k.mono (Int.le_refl _) fun r c => (h r c).1⟩
theorem p_Area (hn : 1000000 ≤ n) {s : Lap} (hv : VL s) : F_ref03_Area n s = some ((areaP s.Panels : Nat) : Int) := by
  rw [F_ref03_Area]
  have hnp := hv.np
  have h := (loop_fold (step := F_ref03_Area_s1 n s) s.Panels (fun i (z : Int) => (z, (i : Int))) (fun z p => z + (areaR p.Rows : Int)) (fun z => z) (fun i z => 0 ≤ z ∧ z ≤ 32 * i) (n := n) 0 ⟨by omega, by omega⟩ (fun i x z hx hI => by
    have hi := (List.getElem?_eq_some_iff.1 hx).1
    have hvp := hv.p x (List.mem_of_getElem? hx)
    have ha := areaR_le hvp.r
    have hxn := hvp.n
    rw [F_ref03_Area_s1, dlt, decide_eq_true hi, geti_nat, hx]
    simp only [if_true, Option.bind_some, p_CellsOf hn hvp PlOK.zero (by decide), w64_nat (show i ≤ 4611686018427387904 by omega)]
    rw [cellsL_len, show rowsT x 0 = x.Rows from rfl, w64_id (by omega) (by omega)]
    exact ⟨rfl, by omega, by omega⟩) (fun z _ => by rw [F_ref03_Area_s1, dlt]; simp) (by omega)).1
  rw [show ((0 : Int), (0 : Int)) = ((0 : Int), ((0 : Nat) : Int)) from rfl, h, sum_foldl]
  simp
end
end Go.Proofs.Ytflhjlgimihmgaa
end
section
namespace Go.Proofs.Ytflhjlgimihmgaa
open Go Go.RowKit Go.Dec
section
variable {n : Nat}
/-- given that it fits in some rows, it fits in j rows just if its last row is one of them -/
theorem fits_rows {W L j : Int} {bad : Int → Int → Prop} {rs : List Span} {pl : Place} (hR : VPn ⟨rs⟩) (h : Fits W L bad rs pl) : Fits W j bad rs pl ↔ pl.Row + rs.length ≤ j := by
  obtain ⟨hn, hr, _⟩ := hR
  simp only at hn hr
  constructor
  · intro hj
    have hlt : rs.length - 1 < rs.length := by omega
    have hs := hr rs[rs.length - 1] (List.getElem_mem hlt)
    have := (hj (pl.Row + ((rs.length - 1 : Nat) : Int)) (pl.Col + rs[rs.length - 1].Low) ⟨rs.length - 1, _, List.getElem?_eq_getElem hlt, rfl, Int.le_refl _, by omega⟩).1
    omega
  · rintro hj r c ⟨k, s, h1, h2, h3⟩
    have hk := (List.getElem?_eq_some_iff.1 h1).1
    exact ⟨by omega, (h r c ⟨k, s, h1, h2, h3⟩).2⟩
theorem rowsT_len (p : Panel) (t : Int) : (rowsT p t).length = p.Rows.length := by
  unfold rowsT
  split
  · rfl
  · simp
theorem p_allR (s : Lap) (hs : Small s) : F_ref03_all n s = some (s.Faults ++ s.Flaws) := by
  have h1 := hs.fa; have h2 := hs.fl
  rw [F_ref03_all, List.nil_append, lim_ok (by omega)]
  simp only [Option.bind_some]
  rw [lim_ok (by rw [List.length_append]; omega)]
  rfl
theorem filter_split {α : Type} (p : α → Bool) (l : List α) : (l.filter p).length + (l.filter fun x => !p x).length = l.length := by
  induction l with
  | nil => rfl
  | cons a l ih =>
    rw [List.filter_cons, List.filter_cons]
    cases p a <;> simp <;> omega
theorem grid_succ (n W : Nat) : grid (n + 1) W = grid n W ++ (List.range W).map fun (c : Nat) => (⟨(n : Int), (c : Int)⟩ : Cell) := by
  unfold grid
  rw [List.range_succ, List.flatMap_append]
  simp
end
end Go.Proofs.Ytflhjlgimihmgaa
end
section
namespace Go.Proofs.Ytflhjlgimihmgaa
open Go Go.RowKit Go.Dec
theorem LayIn.mono2 {W n : Int} : ∀ {ps : List Panel} {pls : List Place} {bad bad' : Int → Int → Prop}, (∀ r c, r < n → bad r c → bad' r c) → LayIn W n bad' ps pls → LayIn W n bad ps pls
  | [], [], _, _, _, _ => trivial
  | p :: ps, pl :: pls, _, _, hb, ⟨h1, h2, h3⟩ => ⟨h1, fun r c hc => ⟨(h2 r c hc).1, (h2 r c hc).2.1, fun h => (h2 r c hc).2.2 (hb r c (h2 r c hc).1 h)⟩, h3.mono2 fun r c hr h => h.imp (hb r c hr) id⟩
def tb (M : Mx) (r c : Nat) : Bool := ((M[r]?.bind fun y => y[c]?).getD false)
structure MW (R W : Nat) (M : Mx) : Prop where
  len : M.length = R
  row : ∀ (r : Nat) (y : List Bool), M[r]? = some y → y.length = W
def badM (M : Mx) (r c : Int) : Prop := 0 ≤ r ∧ 0 ≤ c ∧ tb M r.toNat c.toNat = true
theorem MW.at {R W : Nat} {M : Mx} (h : MW R W M) {r : Nat} (hr : r < R) : ∃ y, M[r]? = some y ∧ y.length = W ∧ ∀ c, c < W → y[c]? = some (tb M r c) := by
  have hl := h.len
  obtain ⟨y, hy⟩ : ∃ y, M[r]? = some y := ⟨_, List.getElem?_eq_getElem (by omega)⟩
  have hw := h.row r y hy
  refine ⟨y, hy, hw, fun c hc => ?_⟩
  unfold tb
  rw [hy]
  simp only [Option.bind_some]
  rw [List.getElem?_eq_getElem (by omega)]; rfl
theorem MW.set {R W : Nat} {M : Mx} (h : MW R W M) {r c : Nat} {y : List Bool} (hy : M[r]? = some y) (hc : c < W) (v : Bool) : MW R W (M.set r (y.set c v)) ∧ ∀ a b, tb (M.set r (y.set c v)) a b = if a = r ∧ b = c then v else tb M a b := by
  have hr := (List.getElem?_eq_some_iff.1 hy).1
  have hw := h.row r y hy
  refine ⟨⟨by rw [List.length_set]; exact h.len, fun a z hz => ?_⟩, fun a b => ?_⟩
  · rw [List.getElem?_set] at hz
    split at hz
    · cases hz; rw [List.length_set]; exact hw
    · exact h.row a z hz
  · unfold tb
    rw [List.getElem?_set]
    by_cases e : r = a
    · subst e
      rw [if_pos rfl, if_pos hr, hy]
      simp only [Option.bind_some, true_and]
      rw [List.getElem?_set]
      by_cases e2 : c = b
      · subst e2
        rw [if_pos rfl, if_pos (by omega), if_pos rfl]; rfl
      · rw [if_neg e2, if_neg (fun h => e2 h.symm)]
    · rw [if_neg e, if_neg (fun h => e h.1.symm)]
theorem MW.ext {R W : Nat} {M M' : Mx} (h : MW R W M) (h' : MW R W M') (he : ∀ r c, r < R → c < W → tb M r c = tb M' r c) : M = M' := by
  refine List.ext_getElem? fun r => ?_
  by_cases hr : r < R
  · obtain ⟨y, hy, hw, hc⟩ := h.at hr
    obtain ⟨y', hy', hw', hc'⟩ := h'.at hr
    rw [hy, hy']
    congr 1
    refine List.ext_getElem? fun c => ?_
    by_cases hcW : c < W
    · rw [hc c hcW, hc' c hcW, he r c hr hcW]
    · rw [List.getElem?_eq_none (by omega), List.getElem?_eq_none (by omega)]
  · have := h.len; have := h'.len
    rw [List.getElem?_eq_none (by omega), List.getElem?_eq_none (by omega)]
section
variable {n : Nat}
theorem p_fits (hn : 1000000 ≤ n) {R W : Nat} {M : Mx} (hM : MW R W M) {rs : List Span} (hl : rs.length ≤ 4) (hr : ∀ s ∈ rs, 0 ≤ s.Low ∧ s.Low ≤ s.High ∧ s.High ≤ 7) {row col : Nat} (hrow : row ≤ 12) (hcol : col ≤ 12) (t : Int) :
    ∃ b, F_ref03_cloth_fits n ⟨M, (R : Int)⟩ rs (row : Int) (col : Int) = some b ∧ (b = true ↔ Fits (W : Int) (R : Int) (badM M) rs ⟨(row : Int), (col : Int), t⟩) := by
  rw [F_ref03_cloth_fits]
  refine Exists.elim (loop_list (step := F_ref03_cloth_fits_s1 n ⟨M, (R : Int)⟩ rs (row : Int) (col : Int)) rs (fun i (_ : Unit) => (i : Int))
    (fun i _ => ∀ (k : Nat) (s : Span), k < i → rs[k]? = some s → ∀ x : Int, (col : Int) + s.Low ≤ x → x ≤ (col : Int) + s.High → (row : Int) + k < R ∧ x < W ∧ ¬ badM M ((row : Int) + k) x)
    (fun r => match r with | .inl o => o = false ∧ ¬ Fits (W : Int) (R : Int) (badM M) rs ⟨(row : Int), (col : Int), t⟩ | .inr _ => Fits (W : Int) (R : Int) (badM M) rs ⟨(row : Int), (col : Int), t⟩) (n := n) () (by intro k s h; omega) (fun k s _ hs hI => ?_) (fun _ hI => ?_) (by omega)) (fun r hzz => ?_)
  rotate_left 2
  obtain ⟨hr', hpost⟩ := hzz
  · rw [show (0 : Int) = ((0 : Nat) : Int) from rfl, hr']
    cases r with
    | inl o => obtain ⟨rfl, h⟩ := hpost; exact ⟨false, rfl, by simp; exact h⟩
    | inr u => exact ⟨true, rfl, by simp; exact hpost⟩
  · have hk := (List.getElem?_eq_some_iff.1 hs).1
    obtain ⟨s0, s1, s2⟩ := hr s (List.mem_of_getElem? hs)
    obtain ⟨L, hL⟩ : ∃ L : Nat, s.Low = L := ⟨s.Low.toNat, by omega⟩
    refine Exists.elim (loop_nats (step := F_ref03_cloth_fits_s2 n ⟨M, (R : Int)⟩ rs (row : Int) (col : Int) (k : Int)) (s.High + 1 - s.Low).toNat (fun i (_ : Unit) => ((L + i : Nat) : Int))
      (fun i _ => ∀ x : Int, (col : Int) + s.Low ≤ x → x < (col : Int) + s.Low + i → (row : Int) + k < R ∧ x < W ∧ ¬ badM M ((row : Int) + k) x)
      (fun r => match r with | .inl o => o = .inr (.inl false) ∧ ∃ x : Int, (col : Int) + s.Low ≤ x ∧ x ≤ (col : Int) + s.High ∧ ¬ ((row : Int) + k < R ∧ x < W ∧ ¬ badM M ((row : Int) + k) x) | .inr _ => ∀ x : Int, (col : Int) + s.Low ≤ x → x ≤ (col : Int) + s.High → (row : Int) + k < R ∧ x < W ∧ ¬ badM M ((row : Int) + k) x) (n := n) () (by intro x h1 h2; omega) (fun i _ hi hI2 => ?_) (fun _ hI2 => ?_) (by omega)) (fun r hzz => ?_)
    rotate_left 2
    obtain ⟨hr', hpost⟩ := hzz
    · rw [F_ref03_cloth_fits_s1, dlt, decide_eq_true hk, geti_nat, hs]
      simp only [if_true, Option.bind_some]
      rw [show s.Low = ((L + 0 : Nat) : Int) by omega, hr']
      simp only [Option.bind_some]
      cases r with
      | inl o =>
        obtain ⟨rfl, x, h1, h2, h3⟩ := hpost
        exact .inr ⟨.inl false, rfl, rfl, fun hF => h3 (hF _ _ ⟨k, s, hs, rfl, h1, h2⟩)⟩
      | inr u =>
        simp only [w64_nat (show k ≤ 4611686018427387904 by omega)]
        refine .inl ⟨(), by trivial, fun k' s' hk' hs' => ?_⟩
        rcases Nat.lt_or_ge k' k with h | h
        · exact hI k' s' h hs'
        · obtain rfl : k' = k := by omega
          rw [hs] at hs'; cases hs'; exact hpost
    · rw [F_ref03_cloth_fits_s2, geti_nat, hs]
      simp only [Option.bind_some]
      rw [decide_eq_true (show ((L + i : Nat) : Int) ≤ s.High by omega), w64_id (show -9223372036854775808 ≤ (row : Int) + (k : Int) by omega) (by omega), w64_id (show -9223372036854775808 ≤ (col : Int) + ((L + i : Nat) : Int) by omega) (by omega), w64_nat (show L + i ≤ 4611686018427387904 by omega)]
      simp only [if_true]
      have e1 : (row : Int) + (k : Int) = ((row + k : Nat) : Int) := by omega
      have e2 : (col : Int) + ((L + i : Nat) : Int) = ((col + (L + i) : Nat) : Int) := by omega
      rw [e1] at hI2
      rw [e1, e2, geti_nat]
      by_cases hR : R ≤ row + k
      · rw [decide_eq_true (show (R : Int) ≤ ((row + k : Nat) : Int) by omega)]
        exact .inr ⟨.inl (.inr (.inl false)), rfl, rfl, _, (show (col : Int) + s.Low ≤ (col : Int) + s.Low by omega), by omega, fun h => by omega⟩
      · rw [decide_eq_false (show ¬ (R : Int) ≤ ((row + k : Nat) : Int) by omega)]
        obtain ⟨y, hy, hw, hc⟩ := hM.at (show row + k < R by omega)
        rw [hy]
        simp only [Bool.false_eq_true, if_false, Option.bind_some, hw]
        by_cases hW : W ≤ col + (L + i)
        · rw [decide_eq_true (show (W : Int) ≤ ((col + (L + i) : Nat) : Int) by omega)]
          exact .inr ⟨.inl (.inr (.inl false)), rfl, rfl, ((col + (L + i) : Nat) : Int), by omega, by omega, fun h => by omega⟩
        · rw [decide_eq_false (show ¬ (W : Int) ≤ ((col + (L + i) : Nat) : Int) by omega), geti_nat, hc _ (by omega)]
          simp only [Bool.false_eq_true, if_false, Option.bind_some]
          cases hb : tb M (row + k) (col + (L + i)) with
          | true =>
            exact .inr ⟨.inl (.inr (.inl false)), rfl, rfl, ((col + (L + i) : Nat) : Int), by omega, by omega, fun h => h.2.2 ⟨by omega, by omega, by rw [Int.toNat_natCast, Int.toNat_natCast]; exact hb⟩⟩
          | false =>
            refine .inl ⟨(), rfl, fun x h1 h2 => ?_⟩
            rcases Int.lt_or_le x ((col : Int) + s.Low + i) with h | h
            · exact hI2 x h1 h
            · obtain rfl : x = ((col + (L + i) : Nat) : Int) := by omega
              refine ⟨by omega, by omega, fun hbad => ?_⟩
              have := hbad.2.2
              rw [Int.toNat_natCast, Int.toNat_natCast, hb] at this
              cases this
    · refine ⟨.inr (), ?_, fun x h1 h2 => hI2 x h1 (by omega)⟩
      rw [F_ref03_cloth_fits_s2, geti_nat, hs]
      simp only [Option.bind_some]
      rw [decide_eq_false (by omega)]; rfl
  · refine ⟨.inr (), by rw [F_ref03_cloth_fits_s1, dlt]; simp, ?_⟩
    rintro r x ⟨k, s, h1, rfl, h2, h3⟩
    exact hI k s (List.getElem?_eq_some_iff.1 h1).1 h1 x h2 h3
theorem p_cover (hn : 1000000 ≤ n) {R W : Nat} {M : Mx} (hM : MW R W M) {rs : List Span} (hl : rs.length ≤ 4) (hr : ∀ s ∈ rs, 0 ≤ s.Low ∧ s.Low ≤ s.High ∧ s.High ≤ 7) {row col : Nat} (hrow : row ≤ 12) (hcol : col ≤ 12) (t : Int) (hin : ∀ r c, cov rs ⟨(row : Int), (col : Int), t⟩ r c → r < R ∧ c < W) (v : Bool) :
    ∃ M', F_ref03_cloth_cover n M (R : Int) rs (row : Int) (col : Int) v = some M' ∧ MW R W M' ∧ ∀ a b : Nat, (cov rs ⟨(row : Int), (col : Int), t⟩ a b → tb M' a b = v) ∧ (¬ cov rs ⟨(row : Int), (col : Int), t⟩ a b → tb M' a b = tb M a b) := by
  rw [F_ref03_cloth_cover]
  refine Exists.elim (loop_list (step := F_ref03_cloth_cover_s1 n rs (row : Int) (col : Int) v) rs (fun i (z : Mx) => ((i : Int), z))
    (fun i z => MW R W z ∧ ∀ a b : Nat, ((∃ (k : Nat) (s : Span), k < i ∧ rs[k]? = some s ∧ a = row + k ∧ (col : Int) + s.Low ≤ b ∧ b ≤ (col : Int) + s.High) → tb z a b = v) ∧ ((¬ ∃ (k : Nat) (s : Span), k < i ∧ rs[k]? = some s ∧ a = row + k ∧ (col : Int) + s.Low ≤ b ∧ b ≤ (col : Int) + s.High) → tb z a b = tb M a b))
    (fun z => MW R W z ∧ ∀ a b : Nat, (cov rs ⟨(row : Int), (col : Int), t⟩ a b → tb z a b = v) ∧ (¬ cov rs ⟨(row : Int), (col : Int), t⟩ a b → tb z a b = tb M a b)) (n := n) M ⟨hM, fun a b => ⟨fun ⟨k, s, h, _⟩ => by omega, fun _ => rfl⟩⟩ (fun k s z hs hI => .inl ?_) (fun z hI => ?_) (by omega)) (fun z hzz => ?_)
  rotate_left 2
  obtain ⟨hz, hp⟩ := hzz
  · rw [show ((0 : Int), M) = (((0 : Nat) : Int), M) from rfl, hz]
    exact ⟨z, rfl, hp⟩
  · have hk := (List.getElem?_eq_some_iff.1 hs).1
    obtain ⟨s0, s1, s2⟩ := hr s (List.mem_of_getElem? hs)
    obtain ⟨L, hL⟩ : ∃ L : Nat, s.Low = L := ⟨s.Low.toNat, by omega⟩
    obtain ⟨hMz, hall⟩ := hI
    refine Exists.elim (loop_nats (step := F_ref03_cloth_cover_s2 n rs (row : Int) (col : Int) v (k : Int)) (s.High + 1 - s.Low).toNat (fun i (z : Mx) => (((L + i : Nat) : Int), z))
      (fun i z' => MW R W z' ∧ ∀ a b : Nat, (a = row + k ∧ col + L ≤ b ∧ b < col + L + i → tb z' a b = v) ∧ (¬ (a = row + k ∧ col + L ≤ b ∧ b < col + L + i) → tb z' a b = tb z a b))
      (fun z' => MW R W z' ∧ ∀ a b : Nat, (a = row + k ∧ (col : Int) + s.Low ≤ b ∧ b ≤ (col : Int) + s.High → tb z' a b = v) ∧ (¬ (a = row + k ∧ (col : Int) + s.Low ≤ b ∧ b ≤ (col : Int) + s.High) → tb z' a b = tb z a b)) (n := n) z ⟨hMz, fun a b => ⟨fun h => by omega, fun _ => rfl⟩⟩ (fun i y hi hI2 => .inl ?_) (fun y hI2 => ?_) (by omega)) (fun z' hzz => ?_)
    rotate_left 2
    obtain ⟨hz', hMz', hall'⟩ := hzz
    · rw [F_ref03_cloth_cover_s1, dlt, decide_eq_true hk, geti_nat, hs]
      simp only [if_true, Option.bind_some]
      rw [show s.Low = ((L + 0 : Nat) : Int) by omega, hz']
      simp only [Option.bind_some, w64_nat (show k ≤ 4611686018427387904 by omega)]
      refine ⟨z', rfl, hMz', fun a b => ⟨?_, fun h => ?_⟩⟩
      · rintro ⟨k', s', h1, h2, h3, h4, h5⟩
        rcases Nat.lt_or_ge k' k with h | h
        · by_cases hin : a = row + k ∧ (col : Int) + s.Low ≤ b ∧ b ≤ (col : Int) + s.High
          · exact (hall' a b).1 hin
          · rw [(hall' a b).2 hin]
            exact (hall a b).1 ⟨k', s', h, h2, h3, h4, h5⟩
        · obtain rfl : k' = k := by omega
          rw [hs] at h2; cases h2
          exact (hall' a b).1 ⟨h3, h4, h5⟩
      · rw [(hall' a b).2 fun h' => h ⟨k, s, by omega, hs, h'⟩]
        exact (hall a b).2 fun ⟨k', s', h1, h2⟩ => h ⟨k', s', by omega, h2⟩
    · obtain ⟨hMy, hy⟩ := hI2
      rw [F_ref03_cloth_cover_s2, geti_nat, hs]
      simp only [Option.bind_some]
      rw [decide_eq_true (show ((L + i : Nat) : Int) ≤ s.High by omega), w64_id (show -9223372036854775808 ≤ (row : Int) + (k : Int) by omega) (by omega), w64_id (show -9223372036854775808 ≤ (col : Int) + ((L + i : Nat) : Int) by omega) (by omega), w64_nat (show L + i ≤ 4611686018427387904 by omega)]
      simp only [if_true]
      have e1 : (row : Int) + (k : Int) = ((row + k : Nat) : Int) := by omega
      have e2 : (col : Int) + ((L + i : Nat) : Int) = ((col + (L + i) : Nat) : Int) := by omega
      obtain ⟨g1, g2⟩ := hin ((row : Int) + k) ((col : Int) + (L + i : Nat)) ⟨k, s, hs, rfl, by simp only; omega, by simp only; omega⟩
      obtain ⟨q, hq, hw, hc⟩ := hMy.at (show row + k < R by omega)
      rw [e1, e2, geti_nat, hq]
      simp only [Option.bind_some]
      rw [geti_nat, hc _ (by omega)]
      simp only [Option.bind_some, setx, Int.toNat_natCast]
      obtain ⟨hMs, hset⟩ := hMy.set hq (show col + (L + i) < W by omega) v
      refine ⟨_, rfl, hMs, fun a b => ⟨fun h => ?_, fun h => ?_⟩⟩
      · rw [hset]
        by_cases e : a = row + k ∧ b = col + (L + i)
        · rw [if_pos e]
        · rw [if_neg e]; exact (hy a b).1 (by omega)
      · rw [hset, if_neg (by omega)]; exact (hy a b).2 (by omega)
    · refine ⟨y, ?_, hI2.1, fun a b => ⟨fun h => (hI2.2 a b).1 (by omega), fun h => (hI2.2 a b).2 (by omega)⟩⟩
      rw [F_ref03_cloth_cover_s2, geti_nat, hs]
      simp only [Option.bind_some]
      rw [decide_eq_false (by omega)]; rfl
  · refine ⟨z, by rw [F_ref03_cloth_cover_s1, dlt]; simp, hI.1, fun a b => ⟨fun ⟨k, s, h1, h2, h3, h4⟩ => (hI.2 a b).1 ⟨k, s, (List.getElem?_eq_some_iff.1 h1).1, h1, by simp only at h2; omega, h3, h4⟩, fun h => (hI.2 a b).2 fun ⟨k, s, h0, h1, h2, h3, h4⟩ => h ⟨k, s, h1, by simp only; omega, h3, h4⟩⟩⟩
theorem p_can {R W : Nat} (hR : R ≤ 12) (hW : 1 ≤ W ∧ W ≤ 8) : ∀ (ps : List Panel) (n : Nat), 1000001 + ps.length ≤ n → (∀ p ∈ ps, VPn p) → ps.length ≤ 100 → ∀ M, MW R W M →
    ∃ b, F_ref03_cloth_can n M (R : Int) ps = some (b, M) ∧ (b = true ↔ ∃ pls, LayIn (W : Int) (R : Int) (badM M) ps pls) := by
  intro ps
  induction ps with
  | nil =>
    intro n hn _ _ M hM
    obtain ⟨n, rfl⟩ : ∃ k, n = k + 1 := ⟨n - 1, by omega⟩
    rw [F_ref03_cloth_can]
    exact ⟨true, by simp, by simp; exact ⟨[], trivial⟩⟩
  | cons p ps ih =>
    intro n hn hps hps' M hM
    obtain ⟨n, rfl⟩ : ∃ k, n = k + 1 := ⟨n - 1, by omega⟩
    rw [List.length_cons] at hn hps'
    have hvp := hps p List.mem_cons_self
    have hpn := hvp.n
    rw [F_ref03_cloth_can]
    dsimp only
    rw [if_neg (by simp; omega)]
    obtain ⟨Start, hStart⟩ : ∃ S : Place → Prop, S = fun pl => ∃ pls, LayIn (W : Int) (R : Int) (badM M) (p :: ps) (pl :: pls) := ⟨_, rfl⟩
    -- one column after the other
    have colL : ∀ (t : Int) (row : Nat), t = 0 ∨ t = 1 → row + p.Rows.length ≤ R → ∃ r, loopO n (F_ref03_cloth_can_s3 n (F_ref03_cloth_can n) (R : Int) (p :: ps) (rowsT p t) (row : Int)) (0, M) = some r ∧ (match r with | .inl o => o = .inr (.inl (.inr (.inl (true, M)))) ∧ ∃ pl, Start pl | .inr z => z = M ∧ ∀ col : Nat, col < W → ¬ Start ⟨(row : Int), (col : Int), t⟩) := by
      intro t row ht hrow
      have hR' := hvp.turn t
      obtain ⟨hRn, hRr, _⟩ := hR'
      simp only at hRn hRr
      refine loop_nats (step := F_ref03_cloth_can_s3 n (F_ref03_cloth_can n) (R : Int) (p :: ps) (rowsT p t) (row : Int)) W (fun i (z : Mx) => ((i : Int), z)) (fun i z => z = M ∧ ∀ col : Nat, col < i → ¬ Start ⟨(row : Int), (col : Int), t⟩)
        (fun r => match r with | .inl o => o = .inr (.inl (.inr (.inl (true, M)))) ∧ ∃ pl, Start pl | .inr z => z = M ∧ ∀ col : Nat, col < W → ¬ Start ⟨(row : Int), (col : Int), t⟩) (n := n) M ⟨rfl, by intro col h; omega⟩ (fun col z hcol hI => ?_) (fun z hI => ?_) (by omega)
      · obtain ⟨rfl, hno⟩ := hI
        obtain ⟨y, hy, hyw, _⟩ := hM.at (show 0 < R by omega)
        have next : ¬ Start ⟨(row : Int), (col : Int), t⟩ → ∀ c : Nat, c < col + 1 → ¬ Start ⟨(row : Int), (c : Int), t⟩ := fun h c hc => by
          rcases Nat.lt_or_ge c col with h' | h'
          · exact hno c h'
          · obtain rfl : c = col := by omega
            exact h
        obtain ⟨b, hb, qb⟩ := p_fits (n := n) (by omega) hM (by omega) hRr (show row ≤ 12 by omega) (show col ≤ 12 by omega) t
        rw [F_ref03_cloth_can_s3, show (0 : Int) = ((0 : Nat) : Int) from rfl, geti_nat, hy]
        simp only [Option.bind_some, hyw]
        rw [decide_eq_true (show (col : Int) < (W : Int) by omega), hb]
        simp only [if_true, Option.bind_some, w64_nat (show col ≤ 4611686018427387904 by omega)]
        cases b with
        | false =>
          refine .inl ⟨z, rfl, rfl, next ?_⟩
          rw [hStart]
          rintro ⟨pls, _, h2, _⟩
          have := qb.2 h2
          cases this
        | true =>
          have hF := qb.1 rfl
          obtain ⟨M1, e1, hM1, c1⟩ := p_cover (n := n) (by omega) hM (by omega) hRr (show row ≤ 12 by omega) (show col ≤ 12 by omega) t (fun r c h => ⟨(hF r c h).1, (hF r c h).2.1⟩) true
          obtain ⟨b2, e2, q2⟩ := ih n (by omega) (fun q hq => hps q (List.mem_cons_of_mem _ hq)) (by omega) M1 hM1
          obtain ⟨M2, e3, hM2, c2⟩ := p_cover (n := n) (by omega) hM1 (by omega) hRr (show row ≤ 12 by omega) (show col ≤ 12 by omega) t (fun r c h => ⟨(hF r c h).1, (hF r c h).2.1⟩) false
          have hM2e : M2 = z := hM2.ext hM fun r c _ _ => by
            by_cases hc : cov (rowsT p t) ⟨(row : Int), (col : Int), t⟩ r c
            · rw [(c2 r c).1 hc]
              have := (hF _ _ hc).2.2
              cases hb : tb z r c with
              | false => rfl
              | true => exact absurd ⟨by omega, by omega, by rw [Int.toNat_natCast, Int.toNat_natCast]; exact hb⟩ this
            · rw [(c2 r c).2 hc, (c1 r c).2 hc]
          subst hM2e
          have hslc : slc (p :: ps) 1 (((p :: ps).length : Nat) : Int) = some ps := by
            unfold slc
            rw [if_pos ⟨by omega, by simp only [List.length_cons]; omega, by omega⟩, Int.toNat_natCast, List.take_length]; rfl
          have hbad : ∀ r c, badM M1 r c ↔ badM M2 r c ∨ cov (rowsT p t) ⟨(row : Int), (col : Int), t⟩ r c := fun r c => by
            constructor
            · rintro ⟨h0, h1, h2⟩
              by_cases hc : cov (rowsT p t) ⟨(row : Int), (col : Int), t⟩ r c
              · exact .inr hc
              · refine .inl ⟨h0, h1, ?_⟩
                rw [← (c1 r.toNat c.toNat).2 (by rw [Int.toNat_of_nonneg h0, Int.toNat_of_nonneg h1]; exact hc)]
                exact h2
            · intro h
              have hrc : 0 ≤ r ∧ 0 ≤ c := by
                rcases h with ⟨h0, h1, _⟩ | ⟨k, s, h1, h2, h3, _⟩
                · exact ⟨h0, h1⟩
                · have := hRr s (List.mem_of_getElem? h1)
                  simp only at h2 h3
                  exact ⟨by omega, by omega⟩
              refine ⟨hrc.1, hrc.2, ?_⟩
              by_cases hc : cov (rowsT p t) ⟨(row : Int), (col : Int), t⟩ r c
              · exact (c1 _ _).1 (by rw [Int.toNat_of_nonneg hrc.1, Int.toNat_of_nonneg hrc.2]; exact hc)
              · rw [(c1 _ _).2 (by rw [Int.toNat_of_nonneg hrc.1, Int.toNat_of_nonneg hrc.2]; exact hc)]
                rcases h with h | h
                · exact h.2.2
                · exact absurd h hc
          have hsl : slc (p :: ps) 1 ((p :: ps).length : Int) = some ps := hslc
          simp only [Bool.not_true, Bool.false_eq_true, if_false, e1, Option.bind_some, hsl, e2, e3]
          cases b2 with
          | true =>
            obtain ⟨pls, hp⟩ := q2.1 rfl
            refine .inr ⟨_, rfl, rfl, ⟨(row : Int), (col : Int), t⟩, ?_⟩
            rw [hStart]
            exact ⟨pls, ⟨by simp only; omega, by simp only; omega, ht⟩, hF, (LayIn.congr hbad).1 hp⟩
          | false =>
            refine .inl ⟨M2, rfl, rfl, next ?_⟩
            rw [hStart]
            rintro ⟨pls, _, _, h3⟩
            have := q2.2 ⟨pls, (LayIn.congr hbad).2 h3⟩
            cases this
      · obtain ⟨rfl, hno⟩ := hI
        obtain ⟨y, hy, hyw, _⟩ := hM.at (show 0 < R by omega)
        refine ⟨.inr z, ?_, rfl, hno⟩
        rw [F_ref03_cloth_can_s3, show (0 : Int) = ((0 : Nat) : Int) from rfl, geti_nat, hy]
        simp only [Option.bind_some, hyw]
        rw [decide_eq_false (by omega)]; rfl
    have rowL : ∀ t : Int, t = 0 ∨ t = 1 → ∃ r, loopO n (F_ref03_cloth_can_s2 n (F_ref03_cloth_can n) (R : Int) (p :: ps) (rowsT p t)) (0, M) = some r ∧ (match r with | .inl o => o = .inr (.inl (true, M)) ∧ ∃ pl, Start pl | .inr z => z = M ∧ ∀ row col : Nat, row + p.Rows.length ≤ R → col < W → ¬ Start ⟨(row : Int), (col : Int), t⟩) := by
      intro t ht
      have hlen := rowsT_len p t
      refine loop_nats (step := F_ref03_cloth_can_s2 n (F_ref03_cloth_can n) (R : Int) (p :: ps) (rowsT p t)) (R + 1 - p.Rows.length) (fun i (z : Mx) => ((i : Int), z)) (fun i z => z = M ∧ ∀ row col : Nat, row < i → row + p.Rows.length ≤ R → col < W → ¬ Start ⟨(row : Int), (col : Int), t⟩)
        (fun r => match r with | .inl o => o = .inr (.inl (true, M)) ∧ ∃ pl, Start pl | .inr z => z = M ∧ ∀ row col : Nat, row + p.Rows.length ≤ R → col < W → ¬ Start ⟨(row : Int), (col : Int), t⟩) (n := n) M ⟨rfl, by intro row col h; omega⟩ (fun i z hi hI => ?_) (fun z hI => ?_) (by omega)
      · obtain ⟨rfl, hno⟩ := hI
        obtain ⟨r, hr, h⟩ := colL t i ht (by omega)
        rw [F_ref03_cloth_can_s2, hlen, w64_id (show -9223372036854775808 ≤ (i : Int) + (p.Rows.length : Int) by omega) (by omega), decide_eq_true (by omega)]
        simp only [if_true, hr, Option.bind_some]
        cases r with
        | inl o => obtain ⟨rfl, hg⟩ := h; exact .inr ⟨_, rfl, rfl, hg⟩
        | inr u =>
          obtain ⟨rfl, h⟩ := h
          simp only [w64_nat (show i ≤ 4611686018427387904 by omega)]
          refine .inl ⟨u, rfl, rfl, fun row col hr hrow hc => ?_⟩
          rcases Nat.lt_or_ge row i with h' | h'
          · exact hno row col h' hrow hc
          · obtain rfl : row = i := by omega
            exact h col hc
      · obtain ⟨rfl, hno⟩ := hI
        refine ⟨.inr z, ?_, rfl, fun row col hr hc => hno row col (by omega) hr hc⟩
        rw [F_ref03_cloth_can_s2, hlen, w64_id (show -9223372036854775808 ≤ ((R + 1 - p.Rows.length : Nat) : Int) + (p.Rows.length : Int) by omega) (by omega), decide_eq_false (by omega)]; rfl
    obtain ⟨r, hr, h⟩ : ∃ r, loopO n (F_ref03_cloth_can_s1 n (F_ref03_cloth_can n) (R : Int) (p :: ps)) (0, M) = some r ∧ (match r with | .inl o => o = (true, M) ∧ ∃ pl, Start pl | .inr z => z = M ∧ ∀ (row col : Nat) (t : Int), t = 0 ∨ t = 1 → row + p.Rows.length ≤ R → col < W → ¬ Start ⟨(row : Int), (col : Int), t⟩) := by
      refine loop_nats (step := F_ref03_cloth_can_s1 n (F_ref03_cloth_can n) (R : Int) (p :: ps)) 2 (fun i (z : Mx) => ((i : Int), z)) (fun i z => z = M ∧ ∀ (row col t : Nat), t < i → row + p.Rows.length ≤ R → col < W → ¬ Start ⟨(row : Int), (col : Int), (t : Int)⟩)
        (fun r => match r with | .inl o => o = (true, M) ∧ ∃ pl, Start pl | .inr z => z = M ∧ ∀ (row col : Nat) (t : Int), t = 0 ∨ t = 1 → row + p.Rows.length ≤ R → col < W → ¬ Start ⟨(row : Int), (col : Int), t⟩) (n := n) M ⟨rfl, by intro row col t h; omega⟩ (fun i z hi hI => ?_) (fun z hI => ?_) (by omega)
      · obtain ⟨rfl, hno⟩ := hI
        obtain ⟨r, hr, h⟩ := rowL (i : Int) (by omega)
        have hrows : (if ((i : Int) == 1) = true then ((geti (p :: ps) 0).bind fun y8456 => (F_ref03_TurnedRows n y8456).bind fun y8461 => some y8461) else (some p.Rows)) = some (rowsT p (i : Int)) := by
          rcases (show i = 0 ∨ i = 1 by omega) with rfl | rfl
          · rfl
          · have : geti (p :: ps) 0 = some p := rfl
            rw [this]
            simp only [Option.bind_some, p_TurnedRows (show 1000000 ≤ n by omega) hvp]
            rfl
        rw [F_ref03_cloth_can_s1, decide_eq_true (show (i : Int) < 2 by omega), show geti (p :: ps) 0 = some p from rfl] at *
        simp only [Option.bind_some] at hrows
        simp only [if_true, Option.bind_some, hrows, hr]
        cases r with
        | inl o => obtain ⟨rfl, hg⟩ := h; exact .inr ⟨_, rfl, rfl, hg⟩
        | inr u =>
          obtain ⟨rfl, h⟩ := h
          simp only [w64_nat (show i ≤ 4611686018427387904 by omega)]
          refine .inl ⟨u, rfl, rfl, fun row col t ht hrow hc => ?_⟩
          rcases Nat.lt_or_ge t i with h' | h'
          · exact hno row col t h' hrow hc
          · obtain rfl : t = i := by omega
            exact h row col hrow hc
      · obtain ⟨rfl, hno⟩ := hI
        refine ⟨.inr z, by rw [F_ref03_cloth_can_s1]; simp, rfl, fun row col t ht hr hc => ?_⟩
        rcases ht with rfl | rfl
        · exact hno row col 0 (by omega) hr hc
        · exact hno row col 1 (by omega) hr hc
    rw [hr]
    cases r with
    | inl o =>
      obtain ⟨rfl, pl, hg⟩ := h
      rw [hStart] at hg
      obtain ⟨pls, hg⟩ := hg
      exact ⟨true, rfl, by simp; exact ⟨_, hg⟩⟩
    | inr u =>
      obtain ⟨rfl, h⟩ := h
      refine ⟨false, rfl, ?_⟩
      simp only [Bool.false_eq_true, false_iff]
      rintro ⟨pls, hpls⟩
      cases pls with
      | nil => exact hpls
      | cons pl pls =>
        have hR' := hvp.turn pl.Turned
        have hf := first_in hR' hpls.2.1
        have hfr := (fits_rows hR' hpls.2.1 (j := (R : Int))).1 hpls.2.1
        rw [rowsT_len] at hfr
        obtain ⟨k1, k2, k3⟩ := hpls.1
        refine h pl.Row.toNat pl.Col.toNat pl.Turned k3 (by omega) (by omega) ?_
        rw [hStart]
        refine ⟨pls, ?_⟩
        have e : (⟨((pl.Row.toNat : Nat) : Int), ((pl.Col.toNat : Nat) : Int), pl.Turned⟩ : Place) = pl := by
          obtain ⟨a, b, t⟩ := pl
          simp only at k1 k2
          simp only [Place.mk.injEq, and_true]
          omega
        rw [e]; exact hpls
end
end Go.Proofs.Ytflhjlgimihmgaa
end
section
namespace Go.Proofs.Ytflhjlgimihmgaa
open Go Go.RowKit Go.Dec
section
variable {n : Nat}
theorem p_Matters (hn : 2000000 ≤ n) {s : Lap} (hv : VL s) {m0 : Int} {l0 : List Place} (e0 : F_lays_Least n s = some (ans m0)) (h0 : LeastIs s (allB s) m0 l0) :
    ∃ M : Nat → Bool, F_lays_Matters n s = some (((List.range s.Flaws.length).filter M).map (fun i : Nat => (i : Int)), 0) ∧ ∀ i, i < s.Flaws.length → ∃ m l, LeastIs s (allB (lessF s i)) m l ∧ (M i = true ↔ 0 ≤ m ∧ (m0 = -1 ∨ m < m0)) := by
  have hlen := hv.fl.2.2
  have each : ∀ i : Nat, ∃ p : List Int × Int × List Place, i < s.Flaws.length → F_lays_cellsOf n [s.Faults, less s.Flaws i] = some p.1 ∧ lenck 12 p.1 = some () ∧ F_lays_least n s p.1 = some (p.2.1, p.2.2) ∧ LeastIs s (allB (lessF s i)) p.2.1 p.2.2 := fun i => by
    obtain ⟨tk, m, lay, h1, h2, _, _, h5, h6⟩ := p_leastOf hn hv [s.Faults, less s.Flaws i] (by simp) (fun l hl => by
      simp only [List.mem_cons, List.not_mem_nil, or_false] at hl
      rcases hl with rfl | rfl
      · have := hv.fa.2.2; omega
      · have := (less_sub s.Flaws i).length_le; omega) (fun l hl c hc => by
      simp only [List.mem_cons, List.not_mem_nil, or_false] at hl
      rcases hl with rfl | rfl
      · exact (hv.fa.1 c hc).1
      · exact (hv.fl.1 c ((less_sub s.Flaws i).subset hc)).1)
    exact ⟨(tk, m, lay), fun _ => ⟨h1, h2, h5, h6⟩⟩
  obtain ⟨f, hf⟩ := Classical.axiomOfChoice each
  refine ⟨fun i => decide (0 ≤ (f i).2.1) && (((ans m0).2 != 0) || decide ((f i).2.1 < (ans m0).1)), ?_, fun i hi => ⟨(f i).2.1, (f i).2.2, (hf i hi).2.2.2, ?_⟩⟩
  · rw [F_lays_Matters, e0]
    simp only [Option.bind_some]
    have hk : (((ans m0).2 != 0) && ((ans m0).2 != 3)) = false := by
      rcases h0.m_eq with k | k
      · rw [ans_ok k]; rfl
      · rw [ans_no k]; rfl
    rw [hk]
    simp only [Bool.false_eq_true, if_false]
    obtain ⟨r, hr, h⟩ := loop_nats (step := F_lays_Matters_s1 n s (ans m0)) s.Flaws.length (fun i (z : List Int) => ((i : Int), z)) (fun i z => z = ((List.range i).filter fun i => decide (0 ≤ (f i).2.1) && (((ans m0).2 != 0) || decide ((f i).2.1 < (ans m0).1))).map (fun i : Nat => (i : Int)))
      (fun r => r = ((List.range s.Flaws.length).filter fun i => decide (0 ≤ (f i).2.1) && (((ans m0).2 != 0) || decide ((f i).2.1 < (ans m0).1))).map (fun i : Nat => (i : Int))) (n := n) [] rfl (fun i z hi hz => .inl (by
        obtain ⟨h1, h2, h3, _⟩ := hf i hi
        have hzl : z.length ≤ i := by
          rw [hz, List.length_map]
          have := List.length_filter_le (fun i => decide (0 ≤ (f i).2.1) && (((ans m0).2 != 0) || decide ((f i).2.1 < (ans m0).1))) (List.range i)
          rwa [List.length_range] at this
        have hdel : delck s.Flaws (i : Int) ((i + 1 : Nat) : Int) = some (less s.Flaws i) := by
          unfold delck less
          rw [if_pos ⟨by omega, by omega, by omega⟩, Int.toNat_natCast, Int.toNat_natCast]
        rw [F_lays_Matters_s1, dlt, decide_eq_true hi, F_slices_Clone___api_Cell_api_Cell_, lim_ok (by omega)]
        simp only [if_true, Option.bind_some, hdel, h1, h2, h3, w64_nat (show i ≤ 4611686018427387904 by omega)]
        rw [List.range_succ, List.filter_append, List.map_append, ← hz]
        cases hM : decide (0 ≤ (f i).2.1) && (((ans m0).2 != 0) || decide ((f i).2.1 < (ans m0).1)) with
        | true =>
          rw [if_pos rfl, lim_ok (by rw [List.length_append]; simp; omega)]
          exact ⟨_, rfl, by simp [List.filter_cons, hM]⟩
        | false =>
          rw [if_neg (by decide)]
          exact ⟨_, rfl, by simp [List.filter_cons, hM]⟩)) (fun z hz => ⟨z, by rw [F_lays_Matters_s1, dlt]; simp, hz⟩) (by omega)
    rw [show ((0 : Int), ([] : List Int)) = (((0 : Nat) : Int), ([] : List Int)) from rfl, hr, h]
    rfl
  · simp only [Bool.and_eq_true, decide_eq_true_iff, Bool.or_eq_true]
    rcases h0.m_eq with k | k
    · rw [ans_ok k]
      simp only [bne_self_eq_false, Bool.false_eq_true, false_or]
      exact and_congr Iff.rfl ⟨.inr, fun h => h.resolve_left (by omega)⟩
    · rw [ans_no k]
      exact and_congr Iff.rfl (iff_of_true (.inl rfl) (.inl k))
end
end Go.Proofs.Ytflhjlgimihmgaa
end
section
namespace Go.Proofs.Ytflhjlgimihmgaa
open Go Go.RowKit Go.Dec
theorem LayIn.places' {W n : Int} (hW : W ≤ 8) (hn : n ≤ 12) : ∀ {ps : List Panel} {pls : List Place} {bad : Int → Int → Prop}, (∀ p ∈ ps, VPn p) → LayIn W n bad ps pls → ∀ pl ∈ pls, IsPl pl
  | [], [], _, _, _, pl, h => by cases h
  | p :: ps, q :: pls, _, hp, ⟨h1, h2, h3⟩, pl, h => by
    rcases List.mem_cons.1 h with rfl | h
    · have hf := first_in ((hp p List.mem_cons_self).turn pl.Turned) h2
      obtain ⟨k1, k2, k3⟩ := h1
      exact ⟨⟨k1, by omega⟩, ⟨k2, by omega⟩, by omega, by omega⟩
    · exact h3.places' hW hn (fun q hq => hp q (List.mem_cons_of_mem _ hq)) pl h
/-- is a cell taken in a table? -/
def tc (M : Mx) (c : Cell) : Bool := tb M c.Row.toNat c.Col.toNat
def freeN (R W : Nat) (M : Mx) : Nat := ((grid R W).filter fun c => !tc M c).length
theorem area_free {R W : Nat} {M : Mx} {ps : List Panel} {pls : List Place} (hp : ∀ p ∈ ps, VPn p) (h : LayIn (W : Int) (R : Int) (badM M) ps pls) : areaP ps ≤ freeN R W M := by
  have h1 := h.count ((grid R W).filter fun c => tc M c) hp ((grid_nodup R W).sublist List.filter_sublist) (fun c hc => by
    obtain ⟨k1, k2⟩ := List.mem_filter.1 hc
    obtain ⟨⟨g1, _⟩, g3, _⟩ := grid_mem.1 k1
    exact ⟨⟨g1, g3, k2⟩, k1⟩)
  have h2 := filter_split (fun c => tc M c) (grid R W)
  rw [grid_len] at h2
  unfold freeN
  omega
section
variable {n : Nat}
theorem p_free (hn : 1000000 ≤ n) {R W : Nat} {M : Mx} (hM : MW R W M) (hR : R ≤ 12) (hW : W ≤ 8) : F_ref03_cloth_free n ⟨M, (R : Int)⟩ = some ((freeN R W M : Nat) : Int) := by
  have row : ∀ (r : Nat) (z : Nat), r < R → z ≤ 1000 → loopO n (F_ref03_cloth_free_s2 n ⟨M, (R : Int)⟩ (r : Int)) ((z : Int), 0) = some (((z + (((List.range W).map fun (c : Nat) => (⟨(r : Int), (c : Int)⟩ : Cell)).filter fun c => !tc M c).length : Nat) : Int)) := by
    intro r z hr hz
    obtain ⟨y, hy, hw, hc⟩ := hM.at hr
    obtain ⟨v, hv', hp⟩ := loop_nats (step := F_ref03_cloth_free_s2 n ⟨M, (R : Int)⟩ (r : Int)) W (fun i (z : Int) => (z, (i : Int))) (fun i y => y = ((z + (((List.range i).map fun (c : Nat) => (⟨(r : Int), (c : Int)⟩ : Cell)).filter fun c => !tc M c).length : Nat) : Int))
      (fun y => y = ((z + (((List.range W).map fun (c : Nat) => (⟨(r : Int), (c : Int)⟩ : Cell)).filter fun c => !tc M c).length : Nat) : Int)) (n := n) (z : Int) (by simp) (fun i x hi hx => .inl (by
        have hlt := List.length_filter_le (fun c => !tc M c) ((List.range i).map fun (c : Nat) => (⟨(r : Int), (c : Int)⟩ : Cell))
        rw [List.length_map, List.length_range] at hlt
        rw [F_ref03_cloth_free_s2, geti_nat, hy]
        simp only [Option.bind_some]
        rw [dlt, hw, decide_eq_true hi, geti_nat, hc i hi]
        simp only [if_true, Option.bind_some, w64_nat (show i ≤ 4611686018427387904 by omega)]
        rw [List.range_succ, List.map_append, List.filter_append, List.length_append]
        simp only [List.map_cons, List.map_nil, List.filter_cons, List.filter_nil]
        have e : tc M ⟨(r : Int), (i : Int)⟩ = tb M r i := rfl
        rw [e]
        cases hb : tb M r i with
        | true =>
          exact ⟨x, rfl, by simpa using hx⟩
        | false =>
          rw [Bool.not_false, if_pos rfl, w64_id (by omega) (by omega)]
          refine ⟨x + 1, rfl, ?_⟩
          simp only [if_true, List.length_cons, List.length_nil]
          omega)) (fun x hx => ⟨x, by rw [F_ref03_cloth_free_s2, geti_nat, hy]; simp only [Option.bind_some]; rw [dlt, hw, decide_eq_false (by omega)]; rfl, hx⟩) (by omega)
    rw [show (((z : Int)), (0 : Int)) = ((z : Int), ((0 : Nat) : Int)) from rfl, hv', hp]
  obtain ⟨v, hv', hp⟩ := loop_nats (step := F_ref03_cloth_free_s1 n ⟨M, (R : Int)⟩) R (fun i (z : Int) => (z, (i : Int))) (fun i y => i ≤ R ∧ y = (freeN i W M : Nat))
    (fun y => y = (freeN R W M : Nat)) (n := n) 0 ⟨by omega, by simp [freeN, grid]⟩ (fun i y hi hy => .inl (by
      have hlt := List.length_filter_le (fun c => !tc M c) (grid i W)
      rw [grid_len] at hlt
      have hiW : i * W ≤ 12 * 8 := Nat.mul_le_mul (by omega) (by omega)
      have hf : freeN i W M ≤ 1000 := by unfold freeN; omega
      rw [F_ref03_cloth_free_s1]
      dsimp only
      rw [decide_eq_true (show (i : Int) < (R : Int) by omega), hy.2, row i _ hi hf]
      simp only [if_true, Option.bind_some, w64_nat (show i ≤ 4611686018427387904 by omega)]
      refine ⟨_, rfl, by omega, ?_⟩
      unfold freeN
      rw [grid_succ, List.filter_append, List.length_append])) (fun y hy => ⟨y, by rw [F_ref03_cloth_free_s1]; dsimp only; rw [decide_eq_false (by omega)]; rfl, hy.2⟩) (by omega)
  rw [F_ref03_cloth_free, show ((0 : Int), (0 : Int)) = ((0 : Int), ((0 : Nat) : Int)) from rfl, hv', hp]
  rfl
/-- the table made, and marked -/
theorem p_made (hn : 1000000 ≤ n) {s : Lap} (hv : VL s) {W : Nat} (hW : s.Width = W) (R : Nat) (hR : R ≤ 12) : ∃ M, loopO n (F_ref03_least_s2 n s (R : Int)) (0, ([] : Mx)) = some M ∧ MW R W M ∧ ∀ r c, tb M r c = false := by
  refine loop_nats (step := F_ref03_least_s2 n s (R : Int)) R (fun i (z : Mx) => ((i : Int), z)) (fun i z => i ≤ R ∧ z = List.replicate i (List.replicate W false))
    (fun M => MW R W M ∧ ∀ r c, tb M r c = false) (n := n) [] ⟨by omega, rfl⟩ (fun i z hi hz => .inl ?_) (fun z hz => ⟨z, by rw [F_ref03_least_s2, decide_eq_false (by omega)]; rfl, ?_⟩) (by omega)
  · obtain ⟨_, rfl⟩ := hz
    rw [F_ref03_least_s2, decide_eq_true (show (i : Int) < (R : Int) by omega), lim_ok (by rw [List.length_append, List.length_replicate]; simp; omega)]
    simp only [if_true, Option.bind_some, w64_nat (show i ≤ 4611686018427387904 by omega)]
    refine ⟨_, rfl, by omega, ?_⟩
    rw [hW, Int.toNat_natCast, List.replicate_succ']
  · obtain ⟨_, rfl⟩ := hz
    have hrow : ∀ (r : Nat) (y : List Bool), (List.replicate R (List.replicate W false))[r]? = some y → y = List.replicate W false := fun r y h => by
      rw [List.getElem?_replicate] at h
      split at h
      · exact (Option.some.inj h).symm
      · cases h
    refine ⟨⟨List.length_replicate, fun r y h => by rw [hrow r y h, List.length_replicate]⟩, fun r c => ?_⟩
    unfold tb
    cases hy : (List.replicate R (List.replicate W false))[r]? with
    | none => rfl
    | some y =>
      rw [hrow r y hy]
      simp only [Option.bind_some, List.getElem?_replicate]
      split <;> rfl
theorem p_marked (hn : 1000000 ≤ n) {s : Lap} (hv : VL s) {W : Nat} (hW : s.Width = W) (R : Nat) (hR : R ≤ 12) (bad : List Cell) (hb : bad.length ≤ 1000) (hc : ∀ c ∈ bad, InC s c) {M : Mx} (hM : MW R W M) (h0 : ∀ r c, tb M r c = false) :
    ∃ M', loopO n (F_ref03_least_s3 n bad (R : Int)) (0, M) = some M' ∧ MW R W M' ∧ ∀ r c : Int, badM M' r c ↔ inL bad r c ∧ r < R := by
  refine loop_list (step := F_ref03_least_s3 n bad (R : Int)) bad (fun i (z : Mx) => ((i : Int), z)) (fun i z => MW R W z ∧ ∀ a b : Nat, tb z a b = true ↔ (∃ (k : Nat) (c : Cell), k < i ∧ bad[k]? = some c ∧ c.Row = a ∧ c.Col = b) ∧ a < R)
    (fun M' => MW R W M' ∧ ∀ r c : Int, badM M' r c ↔ inL bad r c ∧ r < R) (n := n) M ⟨hM, fun a b => by rw [h0]; simp⟩ (fun i x z hx hI => .inl ?_) (fun z hI => ⟨z, by rw [F_ref03_least_s3, dlt]; simp, hI.1, fun r c => ?_⟩) (by omega)
  · have hi := (List.getElem?_eq_some_iff.1 hx).1
    obtain ⟨⟨r0, r1⟩, c0, c1⟩ := hc x (List.mem_of_getElem? hx)
    obtain ⟨hMz, hz⟩ := hI
    obtain ⟨a0, ha⟩ : ∃ a : Nat, x.Row = a := ⟨x.Row.toNat, by omega⟩
    obtain ⟨b0, hb0⟩ : ∃ b : Nat, x.Col = b := ⟨x.Col.toNat, by omega⟩
    rw [F_ref03_least_s3, dlt, decide_eq_true hi, geti_nat, hx]
    simp only [if_true, Option.bind_some, w64_nat (show i ≤ 4611686018427387904 by omega), ha, hb0]
    by_cases hlt : a0 < R
    · rw [decide_eq_true (show (a0 : Int) < (R : Int) by omega)]
      obtain ⟨y, hy, hw, hcc⟩ := hMz.at hlt
      rw [if_pos rfl, geti_nat, hy]
      simp only [Option.bind_some]
      rw [geti_nat, hcc b0 (by omega)]
      simp only [Option.bind_some, setx, Int.toNat_natCast]
      obtain ⟨hMs, hset⟩ := hMz.set hy (show b0 < W by omega) true
      refine ⟨_, rfl, hMs, fun a b => ?_⟩
      rw [hset]
      by_cases e : a = a0 ∧ b = b0
      · rw [if_pos e]
        exact iff_of_true rfl ⟨⟨i, x, by omega, hx, by omega, by omega⟩, by omega⟩
      · rw [if_neg e, hz]
        refine and_congr ⟨fun ⟨k, c, h1, h2⟩ => ⟨k, c, by omega, h2⟩, fun ⟨k, c, h1, h2, h3, h4⟩ => ?_⟩ Iff.rfl
        rcases Nat.lt_or_ge k i with h | h
        · exact ⟨k, c, h, h2, h3, h4⟩
        · obtain rfl : k = i := by omega
          rw [hx] at h2; cases h2
          exact absurd ⟨by omega, by omega⟩ e
    · rw [decide_eq_false (by omega), if_neg (by decide)]
      refine ⟨z, rfl, hMz, fun a b => (hz a b).trans ⟨fun ⟨⟨k, c, h1, h2⟩, h5⟩ => ⟨⟨k, c, by omega, h2⟩, h5⟩, fun ⟨⟨k, c, h1, h2, h3, h4⟩, h5⟩ => ?_⟩⟩
      rcases Nat.lt_or_ge k i with h | h
      · exact ⟨⟨k, c, h, h2, h3, h4⟩, h5⟩
      · obtain rfl : k = i := by omega
        rw [hx] at h2; cases h2; omega
  · constructor
    · rintro ⟨k0, k1, h⟩
      obtain ⟨⟨k, x, h1, h2, h3, h4⟩, h5⟩ := (hI.2 _ _).1 h
      refine ⟨?_, by omega⟩
      have e : x = ⟨r, c⟩ := cell_ext (by simp only; omega) (by simp only; omega)
      subst e
      exact List.mem_of_getElem? h2
    · rintro ⟨h, hr⟩
      obtain ⟨k, hk⟩ := List.mem_iff_getElem?.1 h
      obtain ⟨⟨r0, r1⟩, c0, c1⟩ := hc _ h
      simp only at r0 r1 c0 c1
      exact ⟨r0, c0, (hI.2 _ _).2 ⟨⟨k, _, (List.getElem?_eq_some_iff.1 hk).1, hk, by simp only; omega, by simp only; omega⟩, by omega⟩⟩
/-- the document's least number of rows -/
theorem p_rleast (hn : 2000000 ≤ n) {s : Lap} (hv : VL s) (bad : List Cell) (hb : bad.length ≤ 1000) (hc : ∀ c ∈ bad, InC s c) : ∃ m lay, F_ref03_least n s bad = some m ∧ LeastIs s (inL bad) m lay := by
  have hL := hv.l
  have hW := hv.w
  have hnp := hv.np
  obtain ⟨W, hWe⟩ : ∃ W : Nat, s.Width = W := ⟨s.Width.toNat, by omega⟩
  obtain ⟨r, hr, h⟩ : ∃ r, loopO n (F_ref03_least_s1 n s bad) 0 = some r ∧ (match r with | .inl m => (0 ≤ m ∧ m ≤ s.Length) ∧ Has s (inL bad) m ∧ ∀ k, 0 ≤ k → k < m → ¬ Has s (inL bad) k | .inr _ => ∀ k, 0 ≤ k → k ≤ s.Length → ¬ Has s (inL bad) k) := by
    refine loop_nats (step := F_ref03_least_s1 n s bad) (s.Length + 1).toNat (fun i (_ : Unit) => (i : Int)) (fun i _ => ∀ k : Int, 0 ≤ k → k < i → ¬ Has s (inL bad) k)
      (fun r => match r with | .inl m => (0 ≤ m ∧ m ≤ s.Length) ∧ Has s (inL bad) m ∧ ∀ k, 0 ≤ k → k < m → ¬ Has s (inL bad) k | .inr _ => ∀ k, 0 ≤ k → k ≤ s.Length → ¬ Has s (inL bad) k) (n := n) () (by intro k h0 h1; omega) (fun i _ hi hI => ?_) (fun _ hI => ?_) (by omega)
    · obtain ⟨M0, e0, hM0, z0⟩ := p_made (n := n) (by omega) hv hWe i (by omega)
      obtain ⟨M, e1, hM, z1⟩ := p_marked (n := n) (by omega) hv hWe i (by omega) bad hb hc hM0 z0
      obtain ⟨b, e2, q2⟩ := p_can (R := i) (W := W) (by omega) (by omega) s.Panels n (by omega) hv.p (by omega) M hM
      have hHas : Has s (inL bad) i ↔ ∃ pls, LayIn (W : Int) (i : Int) (badM M) s.Panels pls := by
        unfold Has
        rw [hWe]
        exact ⟨fun ⟨pls, h⟩ => ⟨pls, h.mono2 fun r c _ hb => ((z1 r c).1 hb).1⟩, fun ⟨pls, h⟩ => ⟨pls, h.mono2 fun r c hr hb => (z1 r c).2 ⟨hb, hr⟩⟩⟩
      have hmk : mkck s.Width = some () := by unfold mkck; rw [if_pos ⟨by omega, by omega⟩]
      have next : ¬ Has s (inL bad) i → ∀ k : Int, 0 ≤ k → k < ((i + 1 : Nat) : Int) → ¬ Has s (inL bad) k := fun h k h0 hk => by
        rcases Int.lt_or_le k (i : Int) with h' | h'
        · exact hI k h0 h'
        · obtain rfl : k = (i : Int) := by omega
          exact h
      rw [F_ref03_least_s1, decide_eq_true (show (i : Int) ≤ s.Length by omega), hmk]
      simp only [if_true, Option.bind_some, e0, e1, p_free (show 1000000 ≤ n by omega) hM (show i ≤ 12 by omega) (show W ≤ 8 by omega), p_Area (show 1000000 ≤ n by omega) hv, e2, w64_nat (show i ≤ 4611686018427387904 by omega)]
      by_cases ha : areaP s.Panels ≤ freeN i W M
      · rw [decide_eq_true (by omega), if_pos rfl]
        cases b with
        | true => exact .inr ⟨_, rfl, ⟨by omega, by omega⟩, hHas.2 (q2.1 rfl), hI⟩
        | false => exact .inl ⟨(), rfl, next fun h => by have := q2.2 (hHas.1 h); cases this⟩
      · rw [decide_eq_false (by omega), if_neg (by decide)]
        refine .inl ⟨(), rfl, next fun h => ?_⟩
        obtain ⟨pls, h⟩ := hHas.1 h
        exact ha (area_free hv.p h)
    · refine ⟨.inr (), by rw [F_ref03_least_s1, decide_eq_false (by omega)]; rfl, fun k h0 hk => hI k h0 (by omega)⟩
  rw [F_ref03_least, hr]
  cases r with
  | inl m =>
    obtain ⟨h1, ⟨pls, h2⟩, h3⟩ := h
    exact ⟨m, pls, rfl, .inl ⟨h1, h2, h3⟩⟩
  | inr u => exact ⟨-1, [], rfl, .inr ⟨rfl, rfl, h⟩⟩
theorem p_rknown (hn : 2000000 ≤ n) {s : Lap} (hv : VL s) (bad : List Cell) (hb : bad.length ≤ 1000) (hc : ∀ c ∈ bad, InC s c) : ∃ m lay, F_ref03_known n s bad = some (ans m) ∧ LeastIs s (inL bad) m lay := by
  obtain ⟨m, lay, e, h⟩ := p_rleast hn hv bad hb hc
  refine ⟨m, lay, ?_, h⟩
  rw [F_ref03_known, p_Check0 (by omega) hv]
  simp only [Option.bind_some, bne_self_eq_false, Bool.false_eq_true, if_false, e, ans]
  by_cases hm : m < 0
  · rw [decide_eq_true hm, if_pos hm, if_pos rfl]
  · rw [decide_eq_false hm, if_neg hm, if_neg (by decide)]
theorem p_allB {s : Lap} (hv : VL s) : ((s.Faults ++ s.Flaws).length ≤ 1000) ∧ ∀ c ∈ s.Faults ++ s.Flaws, InC s c := by
  have h1 := hv.fa.2.2; have h2 := hv.fl.2.2
  exact ⟨by rw [List.length_append]; omega, (are_app.1 ⟨hv.fa, hv.fl⟩).1.1⟩
/-- both say the same -/
theorem p_sameLeast (hn : 2000000 ≤ n) {s : Lap} (hv : VL s) {m : Int} {lay : List Place} (h : LeastIs s (allB s) m lay) : F_ref03_Least n s = some (ans m) ∧ F_ref03_least n s (s.Faults ++ s.Flaws) = some m := by
  obtain ⟨h1, h2⟩ := p_allB hv
  obtain ⟨m', lay', e, g⟩ := p_rleast hn hv _ h1 h2
  obtain ⟨m2, lay2, e2, g2⟩ := p_rknown hn hv _ h1 h2
  have hm : m = m' := LeastIs.eq (a := s) (b := s) rfl (fun k _ => ⟨Has.mono (Int.le_refl _) fun r c => (inL_all r c).1, Has.mono (Int.le_refl _) fun r c => (inL_all r c).2⟩) h g
  have hm2 : m = m2 := LeastIs.eq (a := s) (b := s) rfl (fun k _ => ⟨Has.mono (Int.le_refl _) fun r c => (inL_all r c).1, Has.mono (Int.le_refl _) fun r c => (inL_all r c).2⟩) h g2
  subst hm
  subst hm2
  refine ⟨?_, e⟩
  rw [F_ref03_Least, p_allR s hv.small]
  simp only [Option.bind_some, e2]
theorem p_sameHopes (hn : 2000000 ≤ n) {s : Lap} (hv : VL s) {m : Int} {lay : List Place} (h : LeastIs s (sureB s) m lay) : F_ref03_Hopes n s = some (ans m) := by
  have h1 := hv.fa.2.2
  obtain ⟨m2, lay2, e2, g2⟩ := p_rknown hn hv s.Faults (by omega) fun c hc => (hv.fa.1 c hc).1
  have hm2 : m = m2 := LeastIs.eq (a := s) (b := s) rfl (fun k _ => ⟨Has.mono (Int.le_refl _) fun r c => (inL_sure r c).1, Has.mono (Int.le_refl _) fun r c => (inL_sure r c).2⟩) h g2
  subst hm2
  rw [F_ref03_Hopes, e2]
  rfl
theorem p_sameWaste (hn : 2000000 ≤ n) {s : Lap} (hv : VL s) {m q : Int} (e1 : F_lays_Least n s = some (ans m)) (e2 : F_lays_Hopes n s = some (ans q)) (f1 : F_ref03_Least n s = some (ans m)) (f2 : F_ref03_Hopes n s = some (ans q)) : F_ref03_Waste n s = F_lays_Waste n s := by
  rw [F_ref03_Waste, F_lays_Waste, e1, e2, f1, f2]
  simp only [Option.bind_some, p_all (show 1000000 ≤ n by omega) hv, p_Area (show 1000000 ≤ n by omega) hv]
theorem p_rMatters (hn : 2000000 ≤ n) {s : Lap} (hv : VL s) {m0 : Int} {l0 : List Place} (h0 : LeastIs s (allB s) m0 l0) :
    ∃ M : Nat → Bool, F_ref03_Matters n s = some (((List.range s.Flaws.length).filter M).map (fun i : Nat => (i : Int)), 0) ∧ ∀ i, i < s.Flaws.length → ∃ m l, LeastIs s (allB (lessF s i)) m l ∧ (M i = true ↔ 0 ≤ m ∧ (m0 = -1 ∨ m < m0)) := by
  have hlen := hv.fl.2.2
  have hfa := hv.fa.2.2
  have each : ∀ i : Nat, ∃ p : Int × List Place, i < s.Flaws.length → F_ref03_least n s (s.Faults ++ less s.Flaws i) = some p.1 ∧ LeastIs s (allB (lessF s i)) p.1 p.2 := fun i => by
    have hle := (less_sub s.Flaws i).length_le
    obtain ⟨m, lay, e, h⟩ := p_rleast hn hv (s.Faults ++ less s.Flaws i) (by rw [List.length_append]; omega) fun c hc => by
      rcases List.mem_append.1 hc with hc | hc
      · exact (hv.fa.1 c hc).1
      · exact (hv.fl.1 c ((less_sub s.Flaws i).subset hc)).1
    exact ⟨(m, lay), fun _ => ⟨e, h.congr fun r c => inL_all (s := lessF s i) r c⟩⟩
  obtain ⟨f, hf⟩ := Classical.axiomOfChoice each
  obtain ⟨_, eall⟩ := p_sameLeast hn hv h0
  refine ⟨fun i => decide (0 ≤ (f i).1) && (decide (m0 < 0) || decide ((f i).1 < m0)), ?_, fun i hi => ⟨(f i).1, (f i).2, (hf i hi).2, ?_⟩⟩
  · rw [F_ref03_Matters, p_Check0 (by omega) hv, p_allR s hv.small]
    simp only [Option.bind_some, bne_self_eq_false, Bool.false_eq_true, if_false, eall]
    obtain ⟨r, hr, h⟩ := loop_nats (step := F_ref03_Matters_s1 n s m0) s.Flaws.length (fun i (z : List Int) => ((i : Int), z)) (fun i z => z = ((List.range i).filter fun i => decide (0 ≤ (f i).1) && (decide (m0 < 0) || decide ((f i).1 < m0))).map (fun i : Nat => (i : Int)))
      (fun r => r = ((List.range s.Flaws.length).filter fun i => decide (0 ≤ (f i).1) && (decide (m0 < 0) || decide ((f i).1 < m0))).map (fun i : Nat => (i : Int))) (n := n) [] rfl (fun i z hi hz => .inl (by
        obtain ⟨h3, _⟩ := hf i hi
        have hzl : z.length ≤ i := by
          rw [hz, List.length_map]
          have := List.length_filter_le (fun i => decide (0 ≤ (f i).1) && (decide (m0 < 0) || decide ((f i).1 < m0))) (List.range i)
          rwa [List.length_range] at this
        have hle := (less_sub s.Flaws i).length_le
        obtain ⟨k1, k2⟩ := slc_less (l := s.Flaws) (i := (i : Int)) (by omega) (by omega) (by omega)
        rw [F_ref03_Matters_s1, dlt, decide_eq_true hi, k1, k2, Int.toNat_natCast]
        simp only [if_true, Option.bind_some, List.nil_append]
        rw [lim_ok (by rw [List.length_take]; omega)]
        simp only [Option.bind_some]
        rw [show s.Flaws.take i ++ s.Flaws.drop (i + 1) = less s.Flaws i from rfl, lim_ok (by omega)]
        simp only [Option.bind_some]
        rw [F_ref03_LeastOf, List.nil_append, lim_ok (by omega)]
        simp only [Option.bind_some]
        rw [lim_ok (by rw [List.length_append]; omega)]
        simp only [Option.bind_some, h3, w64_nat (show i ≤ 4611686018427387904 by omega)]
        rw [List.range_succ, List.filter_append, List.map_append, ← hz]
        cases hM : decide (0 ≤ (f i).1) && (decide (m0 < 0) || decide ((f i).1 < m0)) with
        | true =>
          rw [if_pos rfl, lim_ok (by rw [List.length_append]; simp; omega)]
          exact ⟨_, rfl, by simp [List.filter_cons, hM]⟩
        | false =>
          rw [if_neg (by decide)]
          exact ⟨_, rfl, by simp [List.filter_cons, hM]⟩)) (fun z hz => ⟨z, by rw [F_ref03_Matters_s1, dlt]; simp, hz⟩) (by omega)
    rw [show ((0 : Int), ([] : List Int)) = (((0 : Nat) : Int), ([] : List Int)) from rfl, hr, h]
    rfl
  · simp only [Bool.and_eq_true, decide_eq_true_iff, Bool.or_eq_true]
    have := h0.m_eq
    exact and_congr Iff.rfl (or_congr ⟨fun h => by omega, fun h => by omega⟩ Iff.rfl)
theorem p_sameMatters (hn : 2000000 ≤ n) {s : Lap} (hv : VL s) {m0 : Int} {l0 : List Place} (e0 : F_lays_Least n s = some (ans m0)) (h0 : LeastIs s (allB s) m0 l0) :
    ∃ l, F_lays_Matters n s = some (l, 0) ∧ F_ref03_Matters n s = some (l, 0) ∧ l.length ≤ 100 := by
  have hlen := hv.fl.2.2
  obtain ⟨M, e1, h1⟩ := p_Matters hn hv e0 h0
  obtain ⟨M', e2, h2⟩ := p_rMatters hn hv h0
  refine ⟨_, e1, ?_, ?_⟩
  · rw [e2]
    congr 3
    refine List.filter_congr fun i hi => ?_
    have hi := List.mem_range.1 hi
    obtain ⟨m, l, g, k⟩ := h1 i hi
    obtain ⟨m', l', g', k'⟩ := h2 i hi
    have hm : m = m' := LeastIs.eq (a := s) (b := s) rfl (fun k _ => Iff.rfl) g g'
    subst hm
    rw [Bool.eq_iff_iff, k, k']
  · rw [List.length_map]
    have := List.length_filter_le M (List.range s.Flaws.length)
    rw [List.length_range] at this
    omega
theorem p_sameInts (hn : 1000000 ≤ n) (a : List Int) (ha : a.length ≤ 10000) : F_law03_sameInts n a a = some true := by
  rw [F_law03_sameInts]
  simp only [bne_self_eq_false, Bool.false_eq_true, if_false]
  have h := loop_all_l (step := F_law03_sameInts_s1 n a a) a (fun _ => true) false (n := n) (by omega) (fun i x hx hi => by
    rw [F_law03_sameInts_s1, dlt, decide_eq_true hi, geti_nat, hx]
    simp [w64_nat (show i ≤ 4611686018427387904 by omega)]) (by rw [F_law03_sameInts_s1, dlt]; simp) (by omega)
  have e : a.all (fun _ => true) = true := by simp
  rw [h, e]; rfl
end
end Go.Proofs.Ytflhjlgimihmgaa
end
