/-
  The plain law of GustsMended.
-/
import Derived.Test.YtcpnnfdhafbemaaPgg
import Derived.Test.YtcpnnfdhafbemaaOpn
import Derived.Test.YtcpnnfdhafbemaaGGustsMended
namespace Go.Proofs.Ytcpnnfdhafbemaa
open Go Go.RowKit Go.Dec
theorem find_range {β : Type} (e : Nat → Option β) : ∀ (l : List Nat), (l.findSome? e = none → ∀ i ∈ l, e i = none) ∧ (∀ z, l.findSome? e = some z → ∃ i ∈ l, e i = some z)
  | [] => by simp
  | a :: l => by
    obtain ⟨h1, h2⟩ := find_range e l
    rw [List.findSome?_cons]
    cases ha : e a with
    | none => exact ⟨fun h i hi => by rcases List.mem_cons.1 hi with rfl | hi; exact ha; exact h1 h i hi, fun z h => by obtain ⟨i, hi, h⟩ := h2 z h; exact ⟨i, List.mem_cons_of_mem _ hi, h⟩⟩
    | some y => exact ⟨fun h => by simp at h, fun z h => ⟨a, List.mem_cons_self .., by rw [ha]; exact h⟩⟩
theorem firstG_spec {d : Canopy} {l : List Gust} (h : askG d l = 0) : ((∀ g ∈ l, noneP d.Ribs.length (firstP d g) = true) ∧ firstG d l = (0, [], 3)) ∨ (∃ (i : Nat) (g : Gust), g ∈ l ∧ noneP d.Ribs.length (firstP d g) = false ∧ firstG d l = ((i : Int), listS d.Ribs.length (firstP d g), 0)) := by
  unfold firstG
  rw [if_pos h]
  obtain ⟨h1, h2⟩ := find_range (firstE d l) (List.range l.length)
  cases hc : (List.range l.length).findSome? (firstE d l) with
  | none =>
    left
    refine ⟨fun g hg => ?_, rfl⟩
    obtain ⟨i, hi, rfl⟩ := List.getElem_of_mem hg
    have := h1 hc i (List.mem_range.2 hi)
    unfold firstE at this
    rw [List.getElem?_eq_getElem hi] at this
    simp only [Option.bind_some] at this
    split at this
    · assumption
    · simp at this
  | some z =>
    right
    obtain ⟨i, hi, h3⟩ := h2 z hc
    have hi := List.mem_range.1 hi
    unfold firstE at h3
    rw [List.getElem?_eq_getElem hi] at h3
    simp only [Option.bind_some] at h3
    split at h3
    · simp at h3
    · rename_i hn
      exact ⟨i, l[i], List.getElem_mem hi, by simpa using hn, by simp only [Option.some.injEq] at h3; rw [← h3]⟩
theorem fold_setx {α : Type} (y : α) : ∀ (l : List Int) (b : List α) (j : Nat), (∀ x ∈ l, 0 ≤ x) → (l.foldl (fun b x => setx b x y) b).length = b.length ∧ (j < b.length → (l.foldl (fun b x => setx b x y) b)[j]? = if l.contains (j : Int) = true then some y else b[j]?)
  | [], b, j, _ => by simp
  | a :: l, b, j, h => by
    obtain ⟨h1, h2⟩ := fold_setx y l (setx b a y) j fun x hx => h x (List.mem_cons_of_mem _ hx)
    have ha := h a (List.mem_cons_self ..)
    rw [List.foldl_cons]
    refine ⟨by rw [h1, setx_len], fun hj => ?_⟩
    rw [h2 (by rw [setx_len]; exact hj), List.contains_cons]
    by_cases hl : l.contains (j : Int) = true
    · simp only [hl, Bool.or_true, if_true]
    · simp only [Bool.not_eq_true] at hl
      simp only [hl, Bool.or_false, Bool.false_eq_true, if_false]
      unfold setx
      rw [List.getElem?_set]
      by_cases hja : a.toNat = j
      · have : ((j : Int) == a) = true := by simp; omega
        simp [hja, this, hj]
      · have : ((j : Int) == a) = false := by simp; omega
        simp [hja, this]
theorem st_of {o : Canopy} {j : Nat} {s : Span} (h : o.Ribs[j]? = some s) : stW o j = s.Low := stW_get h
theorem law_GustsMended (d : Canopy) (class_ : List Gust) (x_ : law05_Left) (_ : W_Canopy d) (hcl : ((∀ z0 ∈ class_, W_Gust z0) ∧ class_.length ≤ 9223372036854775807)) (_ : W_law05_Left x_) : ∃ n, F_law05_GustsMended n d class_ x_ = some true := by
  obtain ⟨n, hn, hnl⟩ : ∃ n, 100000000 ≤ n ∧ class_.length < n := ⟨100000000 + class_.length, by omega, by omega⟩
  refine ⟨n, ?_⟩
  have hw := works_any hn
  simp only [F_law05_GustsMended]
  rcases p_ready hn d hnl hcl.2 with h | ⟨h, hask⟩
  · simp [h, hw]
  · obtain ⟨hd, hl20, hg⟩ := askG_ok.1 hask
    have hs := hd.small
    have hr := hd.r
    have hw1 : w64 ((d.Ribs.length : Int) - 1) = (d.Ribs.length : Int) - 1 := w64_id (by omega) (by omega)
    simp only [h, Option.bind_some, Bool.not_true, Bool.false_eq_true, if_false, F_ref05_IsRib, p_within05, hw1]
    split
    · rw [hw]; rfl
    · rename_i hC
      simp only [Bool.not_eq_true', Bool.not_eq_false, wi_t] at hC
      have hl1000 : class_.length ≤ 1000 := by omega
      obtain ⟨place, at_⟩ := x_
      simp only at hC ⊢
      have hst1 : standsT d class_ = (standsI d class_, 0) := by unfold standsT; rw [if_pos hask]
      have hwk1 : weakT d class_ = (listS d.Ribs.length (weakP d class_), 0) := by unfold weakT; rw [if_pos hask]
      have lw := listS_len hr.2 (weakP d class_)
      have hwn : noneP d.Ribs.length (weakP d class_) = true ↔ ∀ g ∈ class_, noneP d.Ribs.length (firstP d g) = true := by
        constructor
        · intro h g hgm
          refine noneP_iff.2 fun j hj => ?_
          have := noneP_iff.1 h j hj
          unfold weakP at this
          rw [List.any_eq_false] at this
          simpa using this g hgm
        · intro h
          refine noneP_iff.2 fun j hj => ?_
          unfold weakP
          rw [List.any_eq_false]
          intro g hgm
          simp [noneP_iff.1 (h g hgm) j hj]
      have hzero : (((listS d.Ribs.length (weakP d class_)).length : Int) == 0) = noneP d.Ribs.length (weakP d class_) := by
        have := listS_none (N := d.Ribs.length) (p := weakP d class_)
        cases hc : noneP d.Ribs.length (weakP d class_)
        · rw [hc] at this; simp at this ⊢; intro e; rw [e] at this; simp at this
        · rw [hc] at this
          simp only [Bool.not_true, decide_eq_false_iff_not] at this
          simp only [beq_iff_eq]; omega
      -- the first condition
      have hcond : ∃ ribs : List Int, ∃ i e : Int, firstG d class_ = (i, ribs, e) ∧ ribs.length ≤ 10000 ∧ ((e != 0) && (e != 3)) = false ∧ ((standsI d class_ == 1) != (e == 3)) = false ∧ (ribs.all fun x => (listS d.Ribs.length (weakP d class_)).contains x) = true := by
        rcases firstG_spec hask with ⟨h1, h2⟩ | ⟨i, g, h1, h2, h3⟩
        · exact ⟨[], 0, 3, h2, by simp, by simp, by rw [stands_one.2 h1]; rfl, by simp⟩
        · have lf := listS_len hr.2 (firstP d g)
          refine ⟨_, _, 0, h3, by omega, by simp, ?_, listS_sub fun j hj hp => List.any_eq_true.2 ⟨g, h1, hp⟩⟩
          have : standsI d class_ ≠ 1 := fun hc => by
            have := stands_one.1 hc g h1
            rw [h2] at this; simp at this
          simp [this]
      obtain ⟨ribs, fi, fe, f1, f2, f3, f4, f5⟩ := hcond
      have f6 : ((standsI d class_ == 1) != noneP d.Ribs.length (weakP d class_)) = false := by
        cases hc : noneP d.Ribs.length (weakP d class_)
        · have : standsI d class_ ≠ 1 := fun h => by rw [hwn.2 (stands_one.1 h)] at hc; simp at hc
          simp [this]
        · rw [stands_one.2 (hwn.1 hc)]; rfl
      have hd2 : decide ((d.Ribs.length : Int) < ((listS d.Ribs.length (weakP d class_)).length : Int)) = false := by simp; omega
      -- the strong dome
      have hpos : ∀ x ∈ listS d.Ribs.length (weakP d class_), 0 ≤ x := fun x hx => by
        obtain ⟨j, _, rfl⟩ := List.mem_map.1 hx; simp
      have hloop : loopO n (F_law05_GustsMended_s1 n d (listS d.Ribs.length (weakP d class_), 0)) (0, d.Ribs) = some (.inr ((listS d.Ribs.length (weakP d class_)).foldl (fun b x => setx b x ⟨99999, 99999⟩) d.Ribs)) := by
        have kk := (loop_fold (step := F_law05_GustsMended_s1 n d (listS d.Ribs.length (weakP d class_), 0)) (listS d.Ribs.length (weakP d class_)) (fun i (b : List Span) => ((i : Int), b)) (fun b x => setx b x ⟨99999, 99999⟩) (fun b => Sum.inr b) (fun i b => b.length = d.Ribs.length) (n := n) d.Ribs rfl (fun i x b hx hb => ?_) (fun b hb => ?_) (by omega)).1
        · rw [show ((0 : Nat) : Int) = 0 from rfl] at kk
          exact kk
        · have hi := (List.getElem?_eq_some_iff.1 hx).1
          obtain ⟨j, rfl, hj, hp⟩ := listS_get hx
          have hwj : wi (j : Int) 0 ((d.Ribs.length : Int) - 1) = true := by simp [wi]; omega
          have hbj : b[j]? = some (b[j]'(by omega)) := List.getElem?_eq_getElem (by omega)
          refine ⟨?_, by rw [setx_len]; exact hb⟩
          simp only [F_law05_GustsMended_s1, lt_nat, hi, decide_true, if_true, geti_nat, hx, Option.bind_some, F_ref05_IsRib, p_within05, hw1, hwj, Bool.not_true, Bool.false_eq_true, if_false, hbj, w64_nat (show i ≤ 4611686018427387904 by omega)]
        · simp [F_law05_GustsMended_s1]
      have hset := fun j => fold_setx (Span.mk 99999 99999) (listS d.Ribs.length (weakP d class_)) d.Ribs j hpos
      generalize hout : (listS d.Ribs.length (weakP d class_)).foldl (fun b x => setx b x (Span.mk 99999 99999)) d.Ribs = out at hloop hset
      have olen : out.length = d.Ribs.length := (hset 0).1
      have oget : ∀ j, j < d.Ribs.length → out[j]? = if weakP d class_ j = true then some ⟨99999, 99999⟩ else d.Ribs[j]? := fun j hj => by
        have := (hset j).2 hj
        rw [listS_mem] at this
        simpa [hj] using this
      have omem : ∀ s ∈ out, s = ⟨99999, 99999⟩ ∨ s ∈ d.Ribs := fun s hsm => by
        obtain ⟨j, hj, rfl⟩ := List.getElem_of_mem hsm
        have h1 := oget j (by omega)
        rw [List.getElem?_eq_getElem hj] at h1
        split at h1
        · left; simpa using h1
        · right; exact List.mem_of_getElem? h1.symm
      have mk : ∀ (R : List Span), R.length = d.Ribs.length → (∀ s ∈ R, s = ⟨99999, 99999⟩ ∨ s ∈ d.Ribs) → DOk ⟨d.Frame, R, d.Shares⟩ := fun R hR hm => by
        refine ⟨hd.f, by rw [hR]; exact hr, by rw [hR]; exact hd.s, fun s hsm => ?_, hd.sh⟩
        rcases hm s hsm with rfl | hsm
        · simp
        · exact hd.ribs s hsm
      have ho := mk out olen omem
      have same : Same d ⟨d.Frame, out, d.Shares⟩ := ⟨rfl, rfl, olen⟩
      have hasko : ∀ o, DOk o → Same d o → askG o class_ = 0 := fun o ho hso => askG_ok.2 ⟨ho, hl20, fun g hgm => by rw [hso.n]; exact hg g hgm⟩
      have hstands : standsI ⟨d.Frame, out, d.Shares⟩ class_ = 1 := by
        refine stands_one.2 fun g hgm => noneP_iff.2 fun j hj => ?_
        have hj' : j < d.Ribs.length := by rw [same.n] at hj; exact hj
        rw [firstP_eq, same.ldW]
        have hld := load_in (lift := (liftS d).High) (by have := lift_in hd; omega) hd.sh (g := g) (hg g hgm).f (sh_pos hd) j
        simp only [Bool.and_eq_false_iff, decide_eq_false_iff_not]
        right
        by_cases hwk : weakP d class_ j = true
        · have := oget j hj'
          rw [if_pos hwk] at this
          rw [st_of (o := ⟨d.Frame, out, d.Shares⟩) this]
          unfold ldW; simp only; omega
        · have := oget j hj'
          rw [if_neg hwk] at this
          obtain ⟨s, hs1, _⟩ := rib_get hj'
          rw [st_of (o := ⟨d.Frame, out, d.Shares⟩) (this.trans hs1)]
          have hno : firstP d g j = false := by
            cases hf : firstP d g j
            · rfl
            · exact absurd (List.any_eq_true.2 ⟨g, hgm, hf⟩) hwk
          rw [firstP_eq, stW_get hs1] at hno
          simpa [hj'] using hno
      have hst2 : standsT ⟨d.Frame, out, d.Shares⟩ class_ = (1, 0) := by unfold standsT; rw [if_pos (hasko _ ho same), hstands]
      -- the greatest force
      obtain ⟨m1, m2⟩ := most_spec hd at_
      have am : ∀ f : Nat, f ≤ 99 → askG d [⟨(f : Int), at_⟩] = 0 := fun f hf => askG_ok.2 ⟨hd, by simp, fun z hz => by rw [List.mem_singleton.1 hz]; exact ⟨by simp; omega, by simp only; omega⟩⟩
      have am0 : askG d [⟨0, at_⟩] = 0 := by simpa using am 0 (by omega)
      have hmo1 : mostT d at_ = ((mostS d at_ : Int), 0) := by unfold mostT; rw [if_pos am0]
      have hsf : ∀ f : Nat, standsI d [⟨(f : Int), at_⟩] = 1 ↔ standF d at_ f = true := fun f => by
        rw [stands_one]; simp [standF]
      have hm1 : standsT d [⟨(mostS d at_ : Int), at_⟩] = (1, 0) := by
        unfold standsT
        rw [if_pos (am _ m1), (hsf _).2 (by rw [m2 _ m1]; simp)]
      have d1 : decide ((mostS d at_ : Int) < 0) = false := by simp
      have d2 : decide ((99 : Int) < (mostS d at_ : Int)) = false := by simp; omega
      have tail : (F_gusts_Most n d at_).bind (fun y750 => if (((y750.2 != 0) || (decide (y750.1 < 0))) || (decide (99 < y750.1))) = true then (some false) else ((F_gusts_Stands n d [(Gust.mk y750.1 at_)]).bind fun y760 => if ((y760.2 != 0) || (y760.1 != 1)) = true then (some false) else (if decide (y750.1 < 99) = true then ((F_gusts_Stands n d [(Gust.mk (w64 (y750.1 + 1)) at_)]).bind fun y769 => (if ((y769.2 == 0) && (y769.1 != 1)) = true then ((F_law05_works n).bind fun y776 => some y776) else (some false) : Option Bool).bind fun p773 => some p773) else ((F_law05_works n).bind fun y777 => some y777)))) = some true := by
        simp only [p_Most hn hs, hmo1, Option.bind_some, bne_self_eq_false, d1, d2, Bool.or_self, Bool.false_eq_true, if_false, p_Stands hn hs (l := [⟨(mostS d at_ : Int), at_⟩]) (by simp), hm1, hw]
        by_cases hM : mostS d at_ < 99
        · have hlt : decide ((mostS d at_ : Int) < 99) = true := by simp; omega
          have hne : standsI d [⟨((mostS d at_ + 1 : Nat) : Int), at_⟩] ≠ 1 := fun hc => by
            have h8 := (hsf _).1 hc
            rw [m2 (mostS d at_ + 1) (by omega)] at h8
            have := of_decide_eq_true h8
            omega
          have hm2 : standsT d [⟨((mostS d at_ + 1 : Nat) : Int), at_⟩] = (standsI d [⟨((mostS d at_ + 1 : Nat) : Int), at_⟩], 0) := by unfold standsT; rw [if_pos (am _ (by omega))]
          have hne' : (standsI d [⟨((mostS d at_ + 1 : Nat) : Int), at_⟩] != 1) = true := by simpa using hne
          simp only [hlt, if_true, w64_nat (show mostS d at_ ≤ 4611686018427387904 by omega), p_Stands hn hs (l := [⟨((mostS d at_ + 1 : Nat) : Int), at_⟩]) (by simp), hm2, Option.bind_some, beq_self_eq_true, hne', Bool.and_self]
        · have hlt : decide ((mostS d at_ : Int) < 99) = false := by simp; omega
          simp only [hlt, Bool.false_eq_true, if_false]
      simp only [p_Stands hn hs hl1000, p_First hn hs hl1000, p_Weak hn hs hl1000, hst1, f1, hwk1, Option.bind_some, bne_self_eq_false, f3, f4, hzero, f6, Bool.or_self, Bool.false_eq_true, if_false]
      rw [p_subset hn _ _ f2 (by omega), f5]
      simp only [Option.bind_some, Bool.not_true, hd2, Bool.or_self, Bool.false_eq_true, if_false, p_Copy05 hn hs, hloop, p_Stands hn ho.small hl1000, hst2, bne_self_eq_false]
      split
      · rename_i hpl
        simp only [Bool.and_eq_true, decide_eq_true_eq] at hpl
        obtain ⟨p, rfl⟩ : ∃ p : Nat, place = p := ⟨place.toNat, by omega⟩
        have hpx : (listS d.Ribs.length (weakP d class_))[p]? = some ((listS d.Ribs.length (weakP d class_))[p]'(by omega)) := List.getElem?_eq_getElem (by omega)
        obtain ⟨j, hj1, hj, hjw⟩ := listS_get hpx
        rw [hj1] at hpx
        obtain ⟨s, hs1, hs2⟩ := rib_get hj
        have hoj := oget j hj
        rw [if_pos hjw] at hoj
        have hlen2 : (setx out (j : Int) s).length = d.Ribs.length := by rw [setx_len]; exact olen
        have ho2 := mk (setx out (j : Int) s) hlen2 (fun z hz => by
          rcases setx_mem hz with rfl | hz
          · exact .inr hs2
          · exact omem z hz)
        have same2 : Same d ⟨d.Frame, setx out (j : Int) s, d.Shares⟩ := ⟨rfl, rfl, hlen2⟩
        have hne : standsI ⟨d.Frame, setx out (j : Int) s, d.Shares⟩ class_ ≠ 1 := fun hc => by
          obtain ⟨g, hgm, hf⟩ := List.any_eq_true.1 hjw
          have h1 := noneP_iff.1 (stands_one.1 hc g hgm) j (by rw [same2.n]; exact hj)
          have hg2 : (setx out (j : Int) s)[j]? = some s := by rw [setx_get (by omega)]; simp
          rw [firstP_eq, same2.ldW, st_of (o := ⟨d.Frame, setx out (j : Int) s, d.Shares⟩) hg2, same2.n] at h1
          rw [firstP_eq, stW_get hs1] at hf
          rw [hf] at h1; simp at h1
        have hne' : (standsI ⟨d.Frame, setx out (j : Int) s, d.Shares⟩ class_ == 1) = false := by simpa using hne
        have hst3 : standsT ⟨d.Frame, setx out (j : Int) s, d.Shares⟩ class_ = (standsI ⟨d.Frame, setx out (j : Int) s, d.Shares⟩ class_, 0) := by unfold standsT; rw [if_pos (hasko _ ho2 same2)]
        simp only [geti_nat, hpx, Option.bind_some, hs1, hoj, p_Stands hn ho2.small hl1000, hst3, bne_self_eq_false, hne', Bool.or_self, Bool.false_eq_true, if_false]
        exact tail
      · simp only [Option.bind_some]
        exact tail
end Go.Proofs.Ytcpnnfdhafbemaa
