/-
  The plain law of GustsStronger.
-/
import Derived.Test.YtcpnnfdhafbemaaPgg
import Derived.Test.YtcpnnfdhafbemaaOpn
import Derived.Test.YtcpnnfdhafbemaaGGustsStronger
namespace Go.Proofs.Ytcpnnfdhafbemaa
open Go Go.RowKit Go.Dec
theorem law_GustsStronger (d : Canopy) (g : Gust) (x_ : law05_Stronger) (_ : W_Canopy d) (_ : W_Gust g) (_ : W_law05_Stronger x_) : ∃ n, F_law05_GustsStronger n d g x_ = some true := by
  have hn : 100000000 ≤ 100000000 := Nat.le_refl _
  refine ⟨100000000, ?_⟩
  have hw := works_any hn
  simp only [F_law05_GustsStronger]
  rcases p_ready hn d (l := [g]) (by simp) (by simp) with h | ⟨h, hask⟩
  · simp [h, hw]
  · obtain ⟨hd, _, hg⟩ := askG_ok.1 hask
    have hg := hg g (by simp)
    have hs := hd.small
    have hr := hd.r
    have hw1 : w64 ((d.Ribs.length : Int) - 1) = (d.Ribs.length : Int) - 1 := w64_id (by omega) (by omega)
    simp only [h, Option.bind_some, Bool.not_true, Bool.false_eq_true, if_false, F_ref05_IsRib, p_within05, hw1]
    split
    · rw [hw]; rfl
    · rename_i hC
      simp only [Bool.or_eq_true, Bool.not_eq_true', decide_eq_true_eq, not_or, Bool.not_eq_false, wi_t] at hC
      obtain ⟨⟨⟨⟨⟨c1, c2⟩, c3⟩, c4⟩, c5⟩, c6⟩ := hC
      obtain ⟨rib, By, Fo⟩ := x_
      simp only at c1 c2 c3 c4 c5 c6 ⊢
      obtain ⟨r, rfl⟩ : ∃ r : Nat, rib = r := ⟨rib.toNat, by omega⟩
      have hrN : r < d.Ribs.length := by omega
      obtain ⟨s, hs1, hs2⟩ := rib_get hrN
      have hsb := hd.ribs s hs2
      have e1 : w64 (s.Low + By) = s.Low + By := w64_id (by omega) (by omega)
      have e2 : w64 (s.High + By) = s.High + By := w64_id (by omega) (by omega)
      have e3 : w64 (g.Force - Fo) = g.Force - Fo := w64_id (by have := hg.f; omega) (by have := hg.f; omega)
      simp only [p_Copy05 hn hs, Option.bind_some, geti_nat d.Ribs, hs1, geti_setx hrN, e1, e2, e3, setx_setx]
      generalize hY : Span.mk (min 99999 (s.Low + By)) (min 99999 (s.High + By)) = Y
      generalize hO : Canopy.mk d.Frame (setx d.Ribs (r : Int) Y) d.Shares = o
      have oR : o.Ribs = setx d.Ribs (r : Int) Y := by rw [← hO]
      have same : Same d o := by rw [← hO]; exact ⟨rfl, rfl, setx_len _ _ _⟩
      have hdo : DOk o := by
        rw [← hO]
        refine ⟨hd.f, by simpa [setx_len] using hd.r, by simpa [setx_len] using hd.s, fun z hz => ?_, hd.sh⟩
        rcases setx_mem hz with rfl | hz
        · rw [← hY]; simp only; omega
        · exact hd.ribs z hz
      have hB : ∀ j, j < d.Ribs.length → stB d j ≤ stB o j := fun j hj => by
        rw [(setx_st hrN oR j).1]
        split
        · rename_i hjr; subst hjr; rw [stB_get hs1, ← hY]; simp only; omega
        · omega
      have hW : ∀ j, j < d.Ribs.length → stW d j ≤ stW o j := fun j hj => by
        rw [(setx_st hrN oR j).2]
        split
        · rename_i hjr; subst hjr; rw [stW_get hs1, ← hY]; simp only; omega
        · omega
      have hgo : GOk o.Ribs.length ⟨g.Force - Fo, g.At⟩ := by
        rw [same.n]; exact ⟨by have := hg.f; simp only; omega, hg.a⟩
      have hasko : askG o [⟨g.Force - Fo, g.At⟩] = 0 := askG_ok.2 ⟨hdo, by simp, fun z hz => by rw [List.mem_singleton.1 hz]; exact hgo⟩
      have hf0 : 0 ≤ g.Force - Fo := by omega
      have hfl : g.Force - Fo ≤ g.Force := by omega
      have sure : ∀ j, j < d.Ribs.length → sureP o ⟨g.Force - Fo, g.At⟩ j = true → sureP d g j = true := fun j hj h => by
        unfold sureP at h ⊢
        rw [same.n] at h
        exact less_sure (g := g) (g' := ⟨g.Force - Fo, g.At⟩) hd same rfl hf0 hfl hB hj h
      have may : ∀ j, j < d.Ribs.length → mayP o ⟨g.Force - Fo, g.At⟩ j = true → mayP d g j = true := fun j hj h => by
        unfold mayP at h ⊢
        rw [same.n] at h
        exact less_may (g := g) (g' := ⟨g.Force - Fo, g.At⟩) hd same rfl hf0 hfl hW hj h
      have first : ∀ (f' f : Int), 0 ≤ f' → f' ≤ f → ∀ j, j < d.Ribs.length → firstP o ⟨f', g.At⟩ j = true → firstP d ⟨f, g.At⟩ j = true := fun f' f h0 hl j hj h => by
        unfold firstP at h ⊢
        rw [same.n] at h
        exact less_may (g := ⟨f, g.At⟩) (g' := ⟨f', g.At⟩) hd same rfl h0 hl hW hj h
      have firstb : ∀ j, j < d.Ribs.length → firstB o ⟨g.Force - Fo, g.At⟩ j = true → firstB d g j = true := fun j hj h => by
        unfold firstB at h ⊢
        rw [same.n] at h
        exact less_sure (g := g) (g' := ⟨g.Force - Fo, g.At⟩) hd same rfl hf0 hfl hB hj h
      have l1 := listS_len hr.2 (sureP d g)
      have l2 := listS_len hr.2 (mayP d g)
      have l3 := listS_len hr.2 (sureP o ⟨g.Force - Fo, g.At⟩)
      have l4 := listS_len hr.2 (mayP o ⟨g.Force - Fo, g.At⟩)
      have hgo1 : goesT d g = (listS d.Ribs.length (sureP d g), listS d.Ribs.length (mayP d g), 0) := by unfold goesT; rw [if_pos hask]
      have hgo2 : goesT o ⟨g.Force - Fo, g.At⟩ = (listS d.Ribs.length (sureP o ⟨g.Force - Fo, g.At⟩), listS d.Ribs.length (mayP o ⟨g.Force - Fo, g.At⟩), 0) := by unfold goesT; rw [if_pos hasko, same.n]
      have hst1 : standsT d [g] = (standsI d [g], 0) := by unfold standsT; rw [if_pos hask]
      have hst2 : standsT o [⟨g.Force - Fo, g.At⟩] = (standsI o [⟨g.Force - Fo, g.At⟩], 0) := by unfold standsT; rw [if_pos hasko]
      have am1 : askG d [⟨0, g.At⟩] = 0 := askG_ok.2 ⟨hd, by simp, fun z hz => by rw [List.mem_singleton.1 hz]; exact ⟨by simp, hg.a⟩⟩
      have am2 : askG o [⟨0, g.At⟩] = 0 := askG_ok.2 ⟨hdo, by simp, fun z hz => by rw [List.mem_singleton.1 hz, same.n]; exact ⟨by simp, hg.a⟩⟩
      have hmo1 : mostT d g.At = ((mostS d g.At : Int), 0) := by unfold mostT; rw [if_pos am1]
      have hmo2 : mostT o g.At = ((mostS o g.At : Int), 0) := by unfold mostT; rw [if_pos am2]
      have q1 : (standsI d [g] != 1 || standsI o [⟨g.Force - Fo, g.At⟩] == 1) = true := by
        by_cases hc : standsI d [g] = 1
        · have : standsI o [⟨g.Force - Fo, g.At⟩] = 1 := by
            rw [stands_one] at hc ⊢
            intro z hz
            rw [List.mem_singleton.1 hz, same.n]
            exact noneP_mono (first _ _ hf0 hfl) (hc g (by simp))
          simp [this]
        · simp [hc]
      have q2 : (standsI o [⟨g.Force - Fo, g.At⟩] != 2 || standsI d [g] == 2) = true := by
        by_cases hc : standsI o [⟨g.Force - Fo, g.At⟩] = 2
        · have : standsI d [g] = 2 := by
            rw [stands_two hdo (fun z hz => by rw [List.mem_singleton.1 hz]; exact hf0)] at hc
            rw [stands_two hd (fun z hz => by rw [List.mem_singleton.1 hz]; exact hg.f.1)]
            intro hall
            refine hc fun z hz => ?_
            rw [List.mem_singleton.1 hz, same.n]
            exact noneP_mono firstb (hall g (by simp))
          simp [this]
        · simp [hc]
      have q3 : decide ((mostS d g.At : Int) ≤ (mostS o g.At : Int)) = true := by
        obtain ⟨m1, m2⟩ := most_spec hd g.At
        obtain ⟨m3, m4⟩ := most_spec hdo g.At
        have a := m2 (mostS d g.At) m1
        have b := m4 (mostS d g.At) m1
        have hst : standF o g.At (mostS d g.At) = true := by
          have a' : standF d g.At (mostS d g.At) = true := by rw [a]; simp
          unfold standF at a' ⊢
          rw [same.n]
          exact noneP_mono (first _ _ (by simp) (Int.le_refl _)) a'
        rw [hst] at b
        have : mostS d g.At ≤ mostS o g.At := by simpa using b.symm
        simp; omega
      have q4 : decide (40 < w64 (((listS d.Ribs.length (sureP o ⟨g.Force - Fo, g.At⟩)).length : Int) + ((listS d.Ribs.length (mayP o ⟨g.Force - Fo, g.At⟩)).length : Int))) = false := by
        rw [w64_id (by omega) (by omega)]; simp; omega
      simp only [p_Goes hn hs, p_Goes hn hdo.small, p_Stands hn hs (l := [g]) (by simp), p_Stands hn hdo.small (l := [⟨g.Force - Fo, g.At⟩]) (by simp), p_Most hn hs, p_Most hn hdo.small, hgo1, hgo2, hst1, hst2, hmo1, hmo2, Option.bind_some, q4, bne_self_eq_false, Bool.or_self, Bool.false_eq_true, if_false]
      rw [p_subset hn _ _ (by omega) (by omega), p_subset hn _ _ (by omega) (by omega), listS_sub sure, listS_sub may]
      simp only [Option.bind_some, if_true, q1, q2, q3, Bool.and_self, hw]
end Go.Proofs.Ytcpnnfdhafbemaa
