/-
  The plain law of GustsTrue.
-/
import Derived.Test.YtcpnnfdhafbemaaPgg
import Derived.Test.YtcpnnfdhafbemaaOpn
import Derived.Test.YtcpnnfdhafbemaaGGustsTrue
namespace Go.Proofs.Ytcpnnfdhafbemaa
open Go Go.RowKit Go.Dec
theorem p_IsTruth {n : Nat} (hn : 100000000 ≤ n) {d : Canopy} (hd : DOk d) (p : ref01_Pair) (st : List Int) : ∃ b, F_ref05_IsTruth n d p st = some b ∧ (b = true → st.length = d.Ribs.length ∧ (∀ j, j < d.Ribs.length → stW d j ≤ (st[j]?).getD 0 ∧ (st[j]?).getD 0 ≤ stB d j) ∧ toS p ∈ sidesL (secAt d.Frame 0)) := by
  have hr := hd.r
  have hk : min st.length d.Ribs.length ≤ 10 := by omega
  have kk := loop_all (step := F_ref05_IsTruth_s1 n d st) (min st.length d.Ribs.length) (fun j => wi ((st[j]?).getD 0) (stW d j) (stB d j)) false (n := n) (by omega) (fun i hi => ?_) ?_ (by omega)
  · have hsec : geti d.Frame.Sections 0 = some (secAt d.Frame 0) := by
      have := secAt_get (f := d.Frame) (i := 0) (by have := hd.f.n; omega)
      rw [← geti_nat] at this; exact this
    have hw : ∀ a b c, F_ref01_Within n a b c = some (wi a b c) := fun _ _ _ => rfl
    unfold F_ref05_IsTruth
    rw [kk]
    cases hall : (List.range (min st.length d.Ribs.length)).all fun j => wi ((st[j]?).getD 0) (stW d j) (stB d j)
    · exact ⟨false, rfl, fun h => by simp at h⟩
    · simp only [cond_true, Option.bind_some, F_ref01_IsPair, hsec, hw, and_br]
      refine ⟨_, rfl, fun hb => ?_⟩
      simp only [Bool.and_eq_true, beq_iff_eq, wi_t] at hb
      obtain ⟨hb1, hb2, hb3⟩ := hb
      have hlen : st.length = d.Ribs.length := by omega
      refine ⟨hlen, fun j hj => ?_, sides_mem.2 ⟨hb2, hb3⟩⟩
      rw [List.all_eq_true] at hall
      exact wi_t.1 (hall j (List.mem_range.2 (by omega)))
  · have h1 : i < st.length := by omega
    have h2 : i < d.Ribs.length := by omega
    obtain ⟨s, hs1, _⟩ := rib_get h2
    have hx : st[i]? = some st[i] := List.getElem?_eq_getElem h1
    simp only [F_ref05_IsTruth_s1, lt_nat, h1, h2, decide_true, Bool.and_self, if_true, geti_nat, hx, hs1, Option.bind_some, p_within05, stW_get hs1, stB_get hs1, Option.getD_some, w64_nat (show i ≤ 4611686018427387904 by omega)]
    cases wi st[i] s.Low s.High <;> rfl
  · have : ((decide (((min st.length d.Ribs.length : Nat) : Int) < (st.length : Int))) && (decide (((min st.length d.Ribs.length : Nat) : Int) < (d.Ribs.length : Int)))) = false := by
      by_cases h : st.length ≤ d.Ribs.length
      · have : ¬ ((min st.length d.Ribs.length : Nat) : Int) < (st.length : Int) := by omega
        simp only [this, decide_false, Bool.false_and]
      · have : ¬ ((min st.length d.Ribs.length : Nat) : Int) < (d.Ribs.length : Int) := by omega
        simp only [this, decide_false, Bool.and_false]
    simp only [F_ref05_IsTruth_s1, this, Bool.false_eq_true, if_false]
theorem firstG_at {d : Canopy} {l : List Gust} (h : askG d l = 0) {k : Nat} {g : Gust} (hk : l[k]? = some g) (hne : noneP d.Ribs.length (firstP d g) = false) : ∃ (i : Nat) (ribs : List Int), firstG d l = ((i : Int), ribs, 0) ∧ i ≤ k ∧ (i = k → ribs = listS d.Ribs.length (firstP d g)) := by
  unfold firstG
  rw [if_pos h]
  have hkl := (List.getElem?_eq_some_iff.1 hk).1
  obtain ⟨h1, h2⟩ := range_find (e := firstE d l) l.length 0
  rw [← List.range_eq_range'] at h1 h2
  have hek : firstE d l k = some ((k : Int), listS d.Ribs.length (firstP d g), 0) := by
    unfold firstE; rw [hk]; simp [hne]
  cases hc : (List.range l.length).findSome? (firstE d l) with
  | none => have := h2 hc k (by omega) (by omega); rw [hek] at this; simp at this
  | some z =>
    obtain ⟨i, hi, h3, h4⟩ := h1 z hc
    have hik : i ≤ k := by
      refine Classical.byContradiction fun hn => ?_
      have := h4 k (by omega) (by omega)
      rw [hek] at this; simp at this
    have hz : ∃ ribs, z = ((i : Int), ribs, 0) := by
      unfold firstE at h3
      cases hg : l[i]? with
      | none => rw [hg] at h3; simp at h3
      | some g' =>
        rw [hg] at h3
        simp only [Option.bind_some] at h3
        split at h3
        · simp at h3
        · simp only [Option.some.injEq] at h3; exact ⟨_, h3.symm⟩
    obtain ⟨ribs, rfl⟩ := hz
    refine ⟨i, ribs, rfl, hik, fun e => ?_⟩
    subst e
    rw [hek] at h3
    simp only [Option.some.injEq, Prod.mk.injEq] at h3
    exact h3.2.1.symm
theorem firstG_err {d : Canopy} {l : List Gust} (h : askG d l = 0) : ((firstG d l).2.2 = 0 ∨ (firstG d l).2.2 = 3) ∧ (firstG d l).2.1.length ≤ 10000 := by
  have hr := (askG_ok.1 h).1.r
  unfold firstG
  rw [if_pos h]
  cases hc : (List.range l.length).findSome? (firstE d l) with
  | none => exact ⟨.inr rfl, by simp⟩
  | some z =>
    obtain ⟨i, _, hi⟩ := List.exists_of_findSome?_eq_some hc
    unfold firstE at hi
    cases hg : l[i]? with
    | none => rw [hg] at hi; simp at hi
    | some g =>
      rw [hg] at hi
      simp only [Option.bind_some] at hi
      split at hi
      · simp at hi
      · simp only [Option.some.injEq] at hi
        rw [← hi]
        have := listS_len hr.2 (firstP d g)
        exact ⟨.inl rfl, by simp only; omega⟩
theorem law_GustsTrue (d : Canopy) (class_ : List Gust) (x_ : law05_Real) (_ : W_Canopy d) (hcl : ((∀ z0 ∈ class_, W_Gust z0) ∧ class_.length ≤ 9223372036854775807)) (_ : W_law05_Real x_) : ∃ n, F_law05_GustsTrue n d class_ x_ = some true := by
  obtain ⟨n, hn, hnl⟩ : ∃ n, 100000000 ≤ n ∧ class_.length < n := ⟨100000000 + class_.length, by omega, by omega⟩
  refine ⟨n, ?_⟩
  have hw := works_any hn
  simp only [F_law05_GustsTrue]
  rcases p_ready hn d hnl hcl.2 with h | ⟨h, hask⟩
  · simp [h, hw]
  · obtain ⟨hd, hl20, hg⟩ := askG_ok.1 hask
    have hs := hd.small
    have hr := hd.r
    obtain ⟨pair, st, gi⟩ := x_
    obtain ⟨b, hb1, hb2⟩ := p_IsTruth hn hd pair st
    simp only [h, hb1, Option.bind_some, Bool.not_true, Bool.false_eq_true, if_false]
    split
    · rw [hw]; rfl
    · rename_i hC
      simp only [Bool.or_eq_true, Bool.not_eq_true', decide_eq_true_eq, not_or, Bool.not_eq_false] at hC
      obtain ⟨⟨c1, c2⟩, c3⟩ := hC
      obtain ⟨hsl, hstr, hpm⟩ := hb2 c1
      obtain ⟨k, rfl⟩ : ∃ k : Nat, gi = k := ⟨gi.toNat, by omega⟩
      have hk : k < class_.length := by omega
      have hkg : class_[k]? = some class_[k] := List.getElem?_eq_getElem hk
      generalize class_[k] = g at hkg
      have hgm := List.mem_of_getElem? hkg
      have hgg := hg g hgm
      have hl1000 : class_.length ≤ 1000 := by omega
      have hxo := sides_ok (sec0 hd) hpm
      obtain ⟨lsp, _, _⟩ := lift_spec hd
      have hlift := lsp _ hpm
      have hli := lift_in hd
      have ak1 : askG d [g] = 0 := askG_ok.2 ⟨hd, by simp, fun z hz => by rw [List.mem_singleton.1 hz]; exact hgg⟩
      have hlt : liftT d = (liftS d, 0) := by unfold liftT; rw [if_pos (okD_iff.2 hd)]
      have hlo : loadsT d g = ((List.range d.Ribs.length).map fun i => ⟨ldB d g i, ldW d g i⟩, 0) := by unfold loadsT; rw [if_pos ak1]
      have hgo : goesT d g = (listS d.Ribs.length (sureP d g), listS d.Ribs.length (mayP d g), 0) := by unfold goesT; rw [if_pos ak1]
      have hst : standsT d class_ = (standsI d class_, 0) := by unfold standsT; rw [if_pos hask]
      have l1 := listS_len hr.2 (sureP d g)
      have l2 := listS_len hr.2 (mayP d g)
      obtain ⟨fe1, fe2⟩ := firstG_err hask
      generalize hT : ref05_Truth.mk (liftAt d (toS pair)) st = t
      have tl : t.Lift = liftAt d (toS pair) := by rw [← hT]
      have tst : ∀ j, trS t j = (st[j]?).getD 0 := fun j => by rw [← hT]; rfl
      have tok : TOk d.Ribs.length t := ⟨by rw [tl]; omega, by rw [← hT]; exact hsl⟩
      have up : ∀ z ∈ class_, ∀ m j, j < d.Ribs.length → G (ldB d z) (stB d) d.Ribs.length m j = true → G (ldT d t z) (trS t) d.Ribs.length m j = true := fun z hz m j hj h =>
        G_mono (by omega) (fun i hi => load_mono hli.1 (by rw [tl]; exact hlift.1) hd.sh rfl (hg z hz).f.1 (Int.le_refl _) (sh_pos hd) i) (fun i hi => by rw [tst]; exact (hstr i hi).2) m j hj h
      have dn : ∀ z ∈ class_, ∀ m j, j < d.Ribs.length → G (ldT d t z) (trS t) d.Ribs.length m j = true → G (ldW d z) (stW d) d.Ribs.length m j = true := fun z hz m j hj h =>
        G_mono (by omega) (fun i hi => load_mono tok.l.1 (by rw [tl]; exact hlift.2) hd.sh rfl (hg z hz).f.1 (Int.le_refl _) (sh_pos hd) i) (fun i hi => by rw [tst]; exact (hstr i hi).1) m j hj h
      have d1 : decide (liftAt d (toS pair) < (liftS d).Low) = false := by simp; omega
      have d2 : decide ((liftS d).High < liftAt d (toS pair)) = false := by simp; omega
      have d3 : decide (40 < w64 (((listS d.Ribs.length (sureP d g)).length : Int) + ((listS d.Ribs.length (mayP d g)).length : Int))) = false := by
        rw [w64_id (by omega) (by omega)]; simp; omega
      have d4 : ((((List.range d.Ribs.length).map fun i => (⟨ldB d g i, ldW d g i⟩ : Span)).length : Int) != (d.Ribs.length : Int)) = false := by simp
      have d5 : (((firstG d class_).2.2 != 0) && ((firstG d class_).2.2 != 3)) = false := by rcases fe1 with e | e <;> rw [e] <;> rfl
      have loop : loopO n (F_law05_GustsTrue_s1 n d ⟨pair, st, (k : Int)⟩ g (liftAt d (toS pair)) ((List.range d.Ribs.length).map fun i => ⟨ldB d g i, ldW d g i⟩, 0) (listS d.Ribs.length (sureP d g), listS d.Ribs.length (mayP d g), 0) (firstG d class_) (lst d.Ribs.length (rnd (ldT d t g) (trS t) d.Ribs.length d.Ribs.length))) 0 = some (.inr ()) := by
        have kk := loop_all (step := F_law05_GustsTrue_s1 n d ⟨pair, st, (k : Int)⟩ g (liftAt d (toS pair)) ((List.range d.Ribs.length).map fun i => ⟨ldB d g i, ldW d g i⟩, 0) (listS d.Ribs.length (sureP d g), listS d.Ribs.length (mayP d g), 0) (firstG d class_) (lst d.Ribs.length (rnd (ldT d t g) (trS t) d.Ribs.length d.Ribs.length))) d.Ribs.length (fun _ => true) false (n := n) (by omega) (fun r hrN => ?_) ?_ (by omega)
        · rw [kk]
          have e : ((List.range d.Ribs.length).all fun _ => true) = true := by simp
          rw [e]; rfl
        · have hld := p_Load05 hn hd hgg (l := liftAt d (toS pair)) (by omega) hrN
          have b1 := (load_mono (l := (liftS d).Low) (l' := liftAt d (toS pair)) hli.1 hlift.1 hd.sh (g := g) (g' := g) rfl hgg.f.1 (Int.le_refl _) (sh_pos hd) r).2
          have b2 := (load_mono (l := liftAt d (toS pair)) (l' := (liftS d).High) (by omega) hlift.2 hd.sh (g := g) (g' := g) rfl hgg.f.1 (Int.le_refl _) (sh_pos hd) r).2
          have q1 : decide (loadS (liftAt d (toS pair)) d.Shares g r < ldB d g r) = false := by unfold ldB; simp; omega
          have q2 : decide (ldW d g r < loadS (liftAt d (toS pair)) d.Shares g r) = false := by unfold ldW; simp; omega
          have hget : ((List.range d.Ribs.length).map fun i => (⟨ldB d g i, ldW d g i⟩ : Span))[r]? = some ⟨ldB d g r, ldW d g r⟩ := by simp [hrN]
          obtain ⟨r1, r2⟩ := rnd_spec (L := ldT d t g) (S := trS t) hrN d.Ribs.length
          have r3 : rnd (ldT d t g) (trS t) d.Ribs.length d.Ribs.length r = 1 ↔ G (ldT d t g) (trS t) d.Ribs.length 1 r = true := by
            obtain ⟨M, hM⟩ : ∃ M, d.Ribs.length = M + 1 := ⟨d.Ribs.length - 1, by omega⟩
            rw [hM]
            exact rnd_one (by omega) M
          -- a rib that surely goes does so
          have s1 : (if sureP d g r = true then some (rnd (ldT d t g) (trS t) d.Ribs.length d.Ribs.length r == 0) else some false : Option Bool) = some false := by
            by_cases hsu : sureP d g r = true
            · rw [if_pos hsu]
              have := r2 (up g hgm _ r hrN hsu)
              simp; omega
            · rw [if_neg hsu]
          have s2 : (if decide (0 < rnd (ldT d t g) (trS t) d.Ribs.length d.Ribs.length r) = true then some (!mayP d g r) else some false : Option Bool) = some false := by
            by_cases hp : 0 < rnd (ldT d t g) (trS t) d.Ribs.length d.Ribs.length r
            · have hG : G (ldT d t g) (trS t) d.Ribs.length d.Ribs.length r = true := by
                cases hc : G (ldT d t g) (trS t) d.Ribs.length d.Ribs.length r
                · have := r1 hc; omega
                · rfl
              have hm : mayP d g r = true := dn g hgm _ r hrN hG
              simp [hp, hm]
            · simp [hp]
          simp only [F_law05_GustsTrue_s1, lst_len, lt_nat, hrN, decide_true, if_true, hld, Option.bind_some, geti_nat, hget, lst_get _ hrN, q1, q2, Bool.false_eq_true, if_false, p_in hn _ (show (listS d.Ribs.length (sureP d g)).length ≤ 10000 by omega), p_in hn _ (show (listS d.Ribs.length (mayP d g)).length ≤ 10000 by omega), p_in hn _ fe2, listS_mem, Bool.true_and, s1, s2, w64_nat (show r ≤ 4611686018427387904 by omega), cond_true]
          by_cases h1 : rnd (ldT d t g) (trS t) d.Ribs.length d.Ribs.length r = 1
          · have hf : firstP d g r = true := dn g hgm 1 r hrN (r3.1 h1)
            have hne : noneP d.Ribs.length (firstP d g) = false := by
              cases hc : noneP d.Ribs.length (firstP d g)
              · rfl
              · have := noneP_iff.1 hc r hrN; rw [hf] at this; simp at this
            obtain ⟨i, ribs, e1, e2, e3⟩ := firstG_at hask hkg hne
            have hlt2 : decide ((k : Int) < (i : Int)) = false := by simp; omega
            have hcond : ((rnd (ldT d t g) (trS t) d.Ribs.length d.Ribs.length r == 1)) = true := by simp [h1]
            simp only [hcond, if_true, e1, bne_self_eq_false, hlt2, Bool.or_self, Bool.false_eq_true, if_false]
            by_cases hik : i = k
            · rw [e3 hik]
              subst hik
              simp only [beq_self_eq_true, if_true, listS_mem, hrN, decide_true, hf, Bool.and_self, Bool.not_true, Option.bind_some, Bool.false_eq_true, if_false]
            · have : ((i : Int) == (k : Int)) = false := by simp; omega
              simp only [this, Bool.false_eq_true, if_false, Option.bind_some]
          · have : (rnd (ldT d t g) (trS t) d.Ribs.length d.Ribs.length r == 1) = false := by simpa using h1
            simp only [this, Bool.false_eq_true, if_false, Option.bind_some]
        · simp [F_law05_GustsTrue_s1, lst_len]
      simp only [geti_nat, hkg, Option.bind_some, p_LiftOf hn hd hxo, p_Lift hn hs, p_Loads hn hs, p_Goes hn hs, p_Stands hn hs hl1000, p_First hn hs hl1000, hlt, hlo, hgo, hst, bne_self_eq_false, d1, d2, d3, d4, d5, Bool.or_self, Bool.false_eq_true, if_false, hT, p_Rounds hn hd hgg tok, loop, p_StandsIn hn hd hl1000 hg tok]
      rcases stands_mem d class_ with hm | hm | hm
      · have : standIn d class_ t = true := by
          refine List.all_eq_true.2 fun z hz => ?_
          have h1 := stands_one.1 hm z hz
          have h2 : noneP d.Ribs.length (G (ldW d z) (stW d) d.Ribs.length d.Ribs.length) = true := by rw [none_G (by omega)]; exact h1
          exact noneP_mono (fun j hj h => dn z hz _ j hj h) h2
        simp [hm, this, hw]
      · have : standIn d class_ t = false := by
          cases hc : standIn d class_ t
          · rfl
          · exfalso
            refine (stands_two hd fun z hz => (hg z hz).f.1).1 hm fun z hz => ?_
            have h1 := List.all_eq_true.1 hc z hz
            rw [none_G (by omega)] at h1
            exact noneP_mono (fun j hj h => up z hz _ j hj h) h1
        simp [hm, this, hw]
      · simp [hm, hw]
end Go.Proofs.Ytcpnnfdhafbemaa
