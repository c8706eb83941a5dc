/-
  The plain law of GustsRounds.
-/
import Derived.Test.YtcpnnfdhafbemaaPgg
import Derived.Test.YtcpnnfdhafbemaaOpn
import Derived.Test.YtcpnnfdhafbemaaGGustsRounds
namespace Go.Proofs.Ytcpnnfdhafbemaa
open Go Go.RowKit Go.Dec
theorem law_GustsRounds (d : Canopy) (g : Gust) (_ : W_Canopy d) (_ : W_Gust g) : ∃ n, F_law05_GustsRounds n d g = some true := by
  have hn : 100000000 ≤ 100000000 := Nat.le_refl _
  refine ⟨100000000, ?_⟩
  have hw := works_any hn
  simp only [F_law05_GustsRounds]
  rcases p_ready hn d (l := [g]) (by simp) (by simp) with h | ⟨h, hask⟩
  · simp [h, hw]
  · obtain ⟨hd, _, hg⟩ := askG_ok.1 hask
    have hg := hg g (by simp)
    have hs := hd.small
    have hr := hd.r
    have lm := listS_len hr.2 (mayP d g)
    have ls := listS_len hr.2 (sureP d g)
    have lf := listS_len hr.2 (firstP d g)
    have hne : noneP d.Ribs.length (mayP d g) = noneP d.Ribs.length (firstP d g) := none_G (by omega)
    have hgo : goesT d g = (listS d.Ribs.length (sureP d g), listS d.Ribs.length (mayP d g), 0) := by unfold goesT; rw [if_pos hask]
    have hfm : ∀ j, j < d.Ribs.length → firstP d g j = true → mayP d g j = true := fun j _ h => first_may hd h
    have sub1 := listS_sub (N := d.Ribs.length) (p := sureP d g) (q := mayP d g) fun j hj hp => sure_may hd hg.f.1 _ j hj hp
    have sub2 := listS_sub (N := d.Ribs.length) (p := firstP d g) (q := mayP d g) hfm
    have hle := listS_le hfm
    have hz : nz (d.Ribs.length : Int) = some () := nz_nat (by omega)
    have loop : ∀ (fl : Int × List Int × Int), (∀ j : Nat, j < d.Ribs.length → fl.2.1.contains (j : Int) = firstP d g j) → fl.2.1.length ≤ 10000 → loopO 100000000 (F_law05_GustsRounds_s1 100000000 d (listS d.Ribs.length (sureP d g), listS d.Ribs.length (mayP d g), 0) fl) 0 = some (.inr ()) := fun fl hfl hfl2 => by
      have kk := loop_all_l (step := F_law05_GustsRounds_s1 100000000 d (listS d.Ribs.length (sureP d g), listS d.Ribs.length (mayP d g), 0) fl) (listS d.Ribs.length (mayP d g)) (fun _ => true) false (n := 100000000) (by omega) (fun i x hx hi => ?_) ?_ (by omega)
      · rw [kk]
        have e : ((listS d.Ribs.length (mayP d g)).all fun _ => true) = true := by simp
        rw [e]; rfl
      · obtain ⟨j, rfl, hj, hp⟩ := listS_get hx
        have h0 : decide ((j : Int) < 0) = false := by simp
        have h1 : decide ((d.Ribs.length : Int) ≤ (j : Int)) = false := by simp; omega
        have a1 : (w64 ((j : Int) + 1)).tmod (d.Ribs.length : Int) = (((j + 1) % d.Ribs.length : Nat) : Int) := by
          rw [w64_nat (by omega)]; rfl
        have a2 : (w64 (w64 ((j : Int) + (d.Ribs.length : Int)) - 1)).tmod (d.Ribs.length : Int) = (((j + (d.Ribs.length - 1)) % d.Ribs.length : Nat) : Int) := by
          rw [w64_id (n := (j : Int) + (d.Ribs.length : Int)) (by omega) (by omega), w64_id (by omega) (by omega)]
          have : (j : Int) + (d.Ribs.length : Int) - 1 = ((j + (d.Ribs.length - 1) : Nat) : Int) := by omega
          rw [this]; rfl
        have m1 := Nat.mod_lt (j + 1) (show 0 < d.Ribs.length by omega)
        have m2 := Nat.mod_lt (j + (d.Ribs.length - 1)) (show 0 < d.Ribs.length by omega)
        have hprev : (if decide (0 < (i : Int)) = true then ((geti (listS d.Ribs.length (mayP d g)) (w64 ((i : Int) - 1))).bind fun y1076 => some (decide ((j : Int) ≤ y1076))) else (some false) : Option Bool) = some false := by
          by_cases hi0 : i = 0
          · subst hi0; simp
          · obtain ⟨i', rfl⟩ : ∃ z, i = z + 1 := ⟨i - 1, by omega⟩
            have e : w64 (((i' + 1 : Nat) : Int) - 1) = (i' : Int) := by rw [w64_id (by omega) (by omega)]; omega
            have hp' : (listS d.Ribs.length (mayP d g))[i']? = some ((listS d.Ribs.length (mayP d g))[i']'(by omega)) := List.getElem?_eq_getElem (by omega)
            have hlt := listS_lt hp' hx
            rw [if_pos (by simp), e, geti_nat, hp']
            simp only [Option.bind_some, Option.some.injEq, decide_eq_false_iff_not]; omega
        simp only [F_law05_GustsRounds_s1, lt_nat, hi, decide_true, if_true, geti_nat, hx, Option.bind_some, h0, h1, Bool.false_eq_true, if_false, cond_true]
        rw [← geti_nat] at hx
        simp only [← geti_nat, hprev, Option.bind_some, Bool.false_eq_true, if_false, hx, p_in hn _ hfl2, p_in hn _ (show (listS d.Ribs.length (mayP d g)).length ≤ 10000 by omega), hfl j hj, hz, a1, a2, listS_mem, m1, m2, decide_true, Bool.true_and, w64_nat (show i ≤ 4611686018427387904 by omega)]
        cases hf : firstP d g j
        · rcases neighbour (by omega) hj hf _ hp with h | h
          · have h' : mayP d g ((j + 1) % d.Ribs.length) = true := h
            simp [h']
          · have h' : mayP d g ((j + (d.Ribs.length - 1)) % d.Ribs.length) = true := h
            cases mayP d g ((j + 1) % d.Ribs.length) <;> simp [h']
        · simp
      · simp [F_law05_GustsRounds_s1]
    simp only [h, Bool.not_true, Bool.false_eq_true, if_false, p_Goes hn hs, p_First hn hs (l := [g]) (by simp), hgo, Option.bind_some, firstG_one d g hask]
    cases hc : noneP d.Ribs.length (firstP d g)
    · have hpos := listS_none (N := d.Ribs.length) (p := mayP d g)
      rw [hne, hc] at hpos
      have hd1 : decide (((listS d.Ribs.length (mayP d g)).length : Int) < ((listS d.Ribs.length (firstP d g)).length : Int)) = false := by simp; omega
      have hd2 : decide ((d.Ribs.length : Int) < ((listS d.Ribs.length (mayP d g)).length : Int)) = false := by simp; omega
      have lp := loop (0, listS d.Ribs.length (firstP d g), 0) (fun j hj => by rw [listS_mem]; simp [hj]) (by simp only; omega)
      simp only [Bool.false_eq_true, if_false, hpos, hd1, hd2, p_subset hn _ _ (show (listS d.Ribs.length (sureP d g)).length ≤ 10000 by omega) (show (listS d.Ribs.length (mayP d g)).length ≤ 10000 by omega), p_subset hn _ _ (show (listS d.Ribs.length (firstP d g)).length ≤ 10000 by omega) (show (listS d.Ribs.length (mayP d g)).length ≤ 10000 by omega), sub1, sub2, lp, Option.bind_some, hw]
      rfl
    · have hpos := listS_none (N := d.Ribs.length) (p := mayP d g)
      rw [hne, hc] at hpos
      have hd1 : decide (((listS d.Ribs.length (mayP d g)).length : Int) < ((([] : List Int)).length : Int)) = false := by simp
      have hd2 : decide ((d.Ribs.length : Int) < ((listS d.Ribs.length (mayP d g)).length : Int)) = false := by simp; omega
      have lp := loop (0, [], 3) (fun j hj => by rw [noneP_iff.1 hc j hj]; rfl) (by simp)
      simp only [if_true, hpos, hd1, hd2, p_subset hn _ _ (show (listS d.Ribs.length (sureP d g)).length ≤ 10000 by omega) (show (listS d.Ribs.length (mayP d g)).length ≤ 10000 by omega), p_subset hn [] _ (by simp) (show (listS d.Ribs.length (mayP d g)).length ≤ 10000 by omega), sub1, lp, Option.bind_some, hw]
      rfl
end Go.Proofs.Ytcpnnfdhafbemaa
