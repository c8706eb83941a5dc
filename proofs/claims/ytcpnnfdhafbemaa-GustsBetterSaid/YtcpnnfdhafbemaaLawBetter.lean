/-
  The plain law of GustsBetter.
-/
import Derived.Test.YtcpnnfdhafbemaaPgg
import Derived.Test.YtcpnnfdhafbemaaOpn
import Derived.Test.YtcpnnfdhafbemaaGGustsBetter
namespace Go.Proofs.Ytcpnnfdhafbemaa
open Go Go.RowKit Go.Dec
theorem law_GustsBetter (d : Canopy) (class_ : List Gust) (x_ : law05_Better) (_ : W_Canopy d) (hcl : ((∀ z0 ∈ class_, W_Gust z0) ∧ class_.length ≤ 9223372036854775807)) (_ : W_law05_Better x_) : ∃ n, F_law05_GustsBetter n d class_ x_ = some true := by
  obtain ⟨n, hn, hnl⟩ : ∃ n, 100000000 ≤ n ∧ class_.length < n := ⟨100000000 + class_.length, by omega, by omega⟩
  refine ⟨n, ?_⟩
  have hw := works_any hn
  simp only [F_law05_GustsBetter]
  rcases p_ready hn d hnl hcl.2 with h | ⟨h, hask⟩
  · simp [h, hw]
  · obtain ⟨hd, hl20, hg⟩ := askG_ok.1 hask
    have hs := hd.small
    have hr := hd.r
    have hw1 : w64 ((d.Ribs.length : Int) - 1) = (d.Ribs.length : Int) - 1 := w64_id (by omega) (by omega)
    simp only [h, Option.bind_some, Bool.not_true, Bool.false_eq_true, if_false, F_ref05_IsRib, p_within05, hw1]
    split
    · rw [hw]; rfl
    · rename_i hC
      simp only [Bool.or_eq_true, Bool.not_eq_true', decide_eq_true_eq, not_or, Bool.not_eq_false, wi_t] at hC
      obtain ⟨⟨⟨⟨⟨c1, c2⟩, c3⟩, c4⟩, c5⟩, c6⟩ := hC
      obtain ⟨rib, Lo, Hi⟩ := x_
      simp only at c1 c2 c3 c4 c5 c6 ⊢
      obtain ⟨r, rfl⟩ : ∃ r : Nat, rib = r := ⟨rib.toNat, by omega⟩
      have hrN : r < d.Ribs.length := by omega
      obtain ⟨s, hs1, hs2⟩ := rib_get hrN
      have hsb := hd.ribs s hs2
      have e1 : w64 (s.Low + Lo) = s.Low + Lo := w64_id (by omega) (by omega)
      have e2 : w64 (s.High - Hi) = s.High - Hi := w64_id (by omega) (by omega)
      have st0 : ∀ (o : Canopy), F_law05_GustsBetter_s1 n d class_ ⟨(r : Int), Lo, Hi⟩ d s s = F_law05_GustsBetter_s1 n d class_ ⟨(r : Int), Lo, Hi⟩ d s s := fun _ => rfl
      simp only [p_Copy05 hn hs, Option.bind_some, geti_nat d.Ribs, hs1, e1, e2]
      generalize hY : Span.mk (s.Low + Lo) (s.High - Hi) = Y
      generalize hO : Canopy.mk d.Frame (setx d.Ribs (r : Int) Y) d.Shares = o
      rcases p_ready hn o hnl hcl.2 with h2 | ⟨h2, hasko⟩
      · simp [h2, hw]
      · have oR : o.Ribs = setx d.Ribs (r : Int) Y := by rw [← hO]
        have same : Same d o := by rw [← hO]; exact ⟨rfl, rfl, setx_len _ _ _⟩
        obtain ⟨hdo, _, hgo⟩ := askG_ok.1 hasko
        have same' : Same o d := ⟨same.f.symm, same.s.symm, same.n.symm⟩
        have hB : ∀ j, j < d.Ribs.length → stB o j ≤ stB d j := fun j hj => by
          rw [(setx_st hrN oR j).1]
          split
          · rename_i hjr; subst hjr; rw [stB_get hs1, ← hY]; simp only; omega
          · omega
        have hW : ∀ j, j < d.Ribs.length → stW d j ≤ stW o j := fun j hj => by
          rw [(setx_st hrN oR j).2]
          split
          · rename_i hjr; subst hjr; rw [stW_get hs1, ← hY]; simp only; omega
          · omega
        have surek : ∀ g, 0 ≤ g.Force → ∀ k j, j < d.Ribs.length → G (ldB d g) (stB d) d.Ribs.length k j = true → G (ldB o g) (stB o) d.Ribs.length k j = true := fun g hf k j hj h => by
          have := less_sure (d := o) (o := d) (g := g) (g' := g) hdo same' rfl hf (Int.le_refl _) (fun j hj => hB j (by rw [same.n] at hj; exact hj)) (k := k) (j := j) (by rw [same.n]; exact hj) (by rw [same.n]; exact h)
          rw [same.n] at this; exact this
        have mayk : ∀ g, 0 ≤ g.Force → ∀ k j, j < d.Ribs.length → G (ldW o g) (stW o) d.Ribs.length k j = true → G (ldW d g) (stW d) d.Ribs.length k j = true := fun g hf k j hj h => less_may (g := g) (g' := g) hd same rfl hf (Int.le_refl _) hW hj h
        have loop : loopO n (F_law05_GustsBetter_s1 n d class_ ⟨(r : Int), Lo, Hi⟩ d s s) 0 = some (.inr ()) := by
          have kk := loop_all_l (step := F_law05_GustsBetter_s1 n d class_ ⟨(r : Int), Lo, Hi⟩ d s s) class_ (fun _ => true) false (n := n) (by omega) (fun i g hx hi => ?_) ?_ (by omega)
          · rw [kk]
            have e : (class_.all fun _ => true) = true := by simp
            rw [e]; rfl
          · have hgm := List.mem_of_getElem? hx
            have hf := (hg g hgm).f.1
            have ak1 : askG d [g] = 0 := askG_ok.2 ⟨hd, by simp, fun z hz => by rw [List.mem_singleton.1 hz]; exact hg g hgm⟩
            have ak2 : askG o [g] = 0 := askG_ok.2 ⟨hdo, by simp, fun z hz => by rw [List.mem_singleton.1 hz]; exact hgo g hgm⟩
            have hgo1 : goesT d g = (listS d.Ribs.length (sureP d g), listS d.Ribs.length (mayP d g), 0) := by unfold goesT; rw [if_pos ak1]
            have hgo2 : goesT o g = (listS d.Ribs.length (sureP o g), listS d.Ribs.length (mayP o g), 0) := by unfold goesT; rw [if_pos ak2, same.n]
            have l1 := listS_len hr.2 (sureP d g)
            have l2 := listS_len hr.2 (mayP d g)
            have l3 := listS_len hr.2 (sureP o g)
            have l4 := listS_len hr.2 (mayP o g)
            have sub1 := listS_sub (N := d.Ribs.length) (p := sureP d g) (q := sureP o g) fun j hj h => by
              unfold sureP at h ⊢; rw [same.n]; exact surek g hf _ j hj h
            have sub2 := listS_sub (N := d.Ribs.length) (p := mayP o g) (q := mayP d g) fun j hj h => by
              unfold mayP at h ⊢; rw [same.n] at h; exact mayk g hf _ j hj h
            simp only [F_law05_GustsBetter_s1, lt_nat, hi, decide_true, if_true, geti_nat, hx, Option.bind_some, e1, e2, hY, hO, p_Goes hn hs, p_Goes hn hdo.small, hgo1, hgo2, bne_self_eq_false, Bool.or_self, Bool.false_eq_true, if_false, w64_nat (show i ≤ 4611686018427387904 by omega)]
            rw [p_subset hn _ _ (by omega) (by omega), p_subset hn _ _ (by omega) (by omega), sub1, sub2]
            rfl
          · simp [F_law05_GustsBetter_s1]
        have hst1 : standsT d class_ = (standsI d class_, 0) := by unfold standsT; rw [if_pos hask]
        have hst2 : standsT o class_ = (standsI o class_, 0) := by unfold standsT; rw [if_pos hasko]
        have hwk1 : weakT d class_ = (listS d.Ribs.length (weakP d class_), 0) := by unfold weakT; rw [if_pos hask]
        have hwk2 : weakT o class_ = (listS d.Ribs.length (weakP o class_), 0) := by unfold weakT; rw [if_pos hasko, same.n]
        have l1 := listS_len hr.2 (weakP d class_)
        have l2 := listS_len hr.2 (weakP o class_)
        have sub := listS_sub (N := d.Ribs.length) (p := weakP o class_) (q := weakP d class_) fun j hj h => by
          obtain ⟨g, hgm, h⟩ := List.any_eq_true.1 h
          refine List.any_eq_true.2 ⟨g, hgm, ?_⟩
          unfold firstP at h ⊢; rw [same.n] at h; exact mayk g (hg g hgm).f.1 _ j hj h
        have q : (standsI d class_ == 3 || standsI d class_ == standsI o class_) = true := by
          rcases stands_mem d class_ with hm | hm | hm
          · have : standsI o class_ = 1 := by
              rw [stands_one] at hm ⊢
              intro g hgm
              rw [same.n]
              exact noneP_mono (fun j hj h => by unfold firstP at h ⊢; rw [same.n] at h; exact mayk g (hg g hgm).f.1 _ j hj h) (hm g hgm)
            simp [hm, this]
          · have : standsI o class_ = 2 := by
              rw [stands_two hd fun g hgm => (hg g hgm).f.1] at hm
              rw [stands_two hdo fun g hgm => (hg g hgm).f.1]
              intro hall
              refine hm fun g hgm => ?_
              have := hall g hgm
              rw [same.n] at this
              exact noneP_mono (fun j hj h => by unfold firstB at h ⊢; rw [same.n]; exact surek g (hg g hgm).f.1 _ j hj h) this
            simp [hm, this]
          · simp [hm]
        have hl1000 : class_.length ≤ 1000 := by omega
        simp only [h2, loop, Option.bind_some, Bool.not_true, Bool.false_eq_true, if_false, p_Stands hn hs hl1000, p_Stands hn hdo.small hl1000, p_Weak hn hs hl1000, p_Weak hn hdo.small hl1000, hst1, hst2, hwk1, hwk2, beq_self_eq_true, Bool.and_self, Bool.true_and, q, if_true]
        rw [p_subset hn _ _ (by omega) (by omega), sub]
        simp only [Option.bind_some, if_true, hw]
end Go.Proofs.Ytcpnnfdhafbemaa
