/-
  The plain law of TopLift.
-/
import Derived.Test.YteihdclpiekmaaaLfPgg
import Derived.Test.YteihdclpiekmaaaLfOpn
import Derived.Test.YteihdclpiekmaaaLfGTopLift
namespace Go.Proofs.Yteihdclpiekmaaa
open Go Go.RowKit Go.Dec
set_option maxRecDepth 1000000 in
theorem ex_opens : opensT exD.Frame = (1, 0) := by kernel_rfl
theorem blown_any {n : Nat} (hn : 100000000 ≤ n) : F_top_blown n = some true := by
  have hs : Small exD := ⟨by decide, by decide, by decide⟩
  have e0 : F_law01_Example n = some exD.Frame := rfl
  have e1 : F_law05_Example n = some exD := rfl
  simp only [F_top_blown, e0, e1, Option.bind_some, p_Opens hn (f := exD.Frame) (by decide), p_Lift hn hs, ex_lift, ex_opens]
  rfl
theorem p_lifted {n : Nat} (hn : 100000000 ≤ n) {c : Frac} (h : FracOk c) : F_top_lifted n c = some (ofL c) := by
  have := p_of hn h
  simp only [F_gusts_lift_1, F_gusts_down] at this
  simp only [F_top_lifted, F_top_down]
  exact this
theorem law_TopLift (d : Canopy) (at_ : Int) (_ : W_Canopy d) (_ : I64 at_) : ∃ n, F_top_TopLift n d at_ = some true := by
  have hn : 100000000 ≤ 100000000 := Nat.le_refl _
  refine ⟨100000000, ?_⟩
  have hw := blown_any hn
  simp only [F_top_TopLift]
  rcases p_Far hn d with h | ⟨h, hs, _⟩
  · simp [h, hw]
  · have hw1 : w64 ((d.Ribs.length : Int) - 1) = (d.Ribs.length : Int) - 1 := w64_id (by have := hs.2.1; omega) (by have := hs.2.1; omega)
    simp only [h, Option.bind_some, Bool.false_eq_true, if_false, p_Check05 hn hs, F_ref05_IsRib, p_within05, hw1]
    by_cases hok : okD d = true
    · have hd := okD_iff.1 hok
      have hr := hd.r
      simp only [hok, if_true, bne_self_eq_false, Bool.false_eq_true, if_false, Option.bind_some]
      by_cases hat : wi at_ 0 ((d.Ribs.length : Int) - 1) = true
      · have hat' := wi_t.1 hat
        have hl := hd.f.r
        have hs0 := sec0 hd
        have hd1 : 1 ≤ d.Frame.Low ∧ d.Frame.Low ≤ 6000 := by omega
        have hlow := low_ok hd1 _ (fun x hx => sides_ok hs0 hx) (sides_ne hs0)
        have ha : askT d.Frame 0 d.Frame.Low = 0 := ask_zero (okF_iff.2 hd.f) (by
          have := hd.f.n
          simp only [Bool.and_eq_true, wi_t]; omega)
        have hdist : dist d.Frame 0 d.Frame.Low = d.Frame.Low := by
          have : (d.Frame.Sections.take (0 + 1)).drop 1 = [] := by cases d.Frame.Sections <;> simp
          unfold dist; rw [this]; rfl
        have e : cosineT d.Frame 0 d.Frame.Low = (red (lowF d.Frame.Low (sidesL (secAt d.Frame 0))), red (highF d.Frame.Low (sidesL (secAt d.Frame 0))), 0) := by
          unfold cosineT
          rw [if_pos ha, show (0 : Int).toNat = 0 from rfl, hdist, if_neg (by omega)]
        have r1 := red_ok hlow.1
        have r2 := red_ok hlow.2
        have o1 : ofL (red (lowF d.Frame.Low (sidesL (secAt d.Frame 0)))) = (liftS d).Low := ofL_red hlow.1.1.1
        have o2 : ofL (red (highF d.Frame.Low (sidesL (secAt d.Frame 0)))) = (liftS d).High := ofL_red hlow.2.1.1
        generalize red (lowF d.Frame.Low (sidesL (secAt d.Frame 0))) = lo at e r1 o1
        generalize red (highF d.Frame.Low (sidesL (secAt d.Frame 0))) = hi at e r2 o2
        have hlt : liftT d = (liftS d, 0) := by unfold liftT; rw [if_pos hok]
        obtain ⟨⟨b1, b2⟩, b3, b4⟩ := id r1
        obtain ⟨⟨b5, b6⟩, b7, b8⟩ := id r2
        have c1 : decide (lo.Den < 1) = false := by simp; omega
        have c2 : decide (hi.Den < 1) = false := by simp; omega
        have c3 : decide (1073741824 < lo.Den) = false := by simp; omega
        have c4 : decide (1073741824 < hi.Den) = false := by simp; omega
        have c5 : decide (1099511627776 < (max (max (max lo.Num (w64 (-lo.Num))) hi.Num) (w64 (-hi.Num)))) = false := by
          rw [w64_id (n := -lo.Num) (by omega) (by omega), w64_id (n := -hi.Num) (by omega) (by omega)]
          simp only [decide_eq_false_iff_not]; omega
        obtain ⟨m1, m2⟩ := most_spec hd at_
        have gk : ∀ f : Nat, f ≤ 99 → GOk d.Ribs.length ⟨(f : Int), at_⟩ := fun f hf => ⟨by simp only; omega, by simp only; omega⟩
        have am : ∀ f : Nat, f ≤ 99 → askG d [⟨(f : Int), at_⟩] = 0 := fun f hf => askG_ok.2 ⟨hd, by simp, fun z hz => by rw [List.mem_singleton.1 hz]; exact gk f hf⟩
        have am0 : askG d [⟨0, at_⟩] = 0 := by simpa using am 0 (by omega)
        have hmo : mostT d at_ = ((mostS d at_ : Int), 0) := by unfold mostT; rw [if_pos am0]
        have hgo : ∀ f : Nat, f ≤ 99 → goesT d ⟨(f : Int), at_⟩ = (listS d.Ribs.length (sureP d ⟨(f : Int), at_⟩), listS d.Ribs.length (mayP d ⟨(f : Int), at_⟩), 0) := fun f hf => by unfold goesT; rw [if_pos (am f hf)]
        have hno : ∀ f : Nat, decide (0 < ((listS d.Ribs.length (mayP d ⟨(f : Int), at_⟩)).length : Int)) = !standF d at_ f := fun f => by
          rw [listS_none]
          unfold mayP standF firstP
          rw [none_G (by omega)]
        have d1 : decide ((mostS d at_ : Int) < 0) = false := by simp
        have d2 : decide ((99 : Int) < (mostS d at_ : Int)) = false := by simp; omega
        simp only [hat, Bool.not_true, Bool.false_eq_true, if_false, p_Cosine hn hs.1, e, p_Lift hn hs, hlt, Option.bind_some, bne_self_eq_false, c1, c2, c3, c4, c5, Bool.or_self, p_lifted hn r1, p_lifted hn r2, o1, o2, p_Most hn hs, hmo, d1, d2, p_Goes hn hs, hgo _ m1, hno, m2 _ m1, Nat.le_refl, decide_true]
        by_cases hM : mostS d at_ < 99
        · have e9 : ((mostS d at_ : Int) == 99) = false := by simp; omega
          have hst := m2 (mostS d at_ + 1) (by omega)
          have hf : standF d at_ (mostS d at_ + 1) = false := by rw [hst]; simp
          simp only [e9, Bool.false_eq_true, if_false, w64_nat (show mostS d at_ ≤ 4611686018427387904 by omega), hgo _ (show mostS d at_ + 1 ≤ 99 by omega), hno, hf, Bool.not_false, Bool.and_self, beq_self_eq_true, if_true, hw, Option.bind_some]
        · have e9 : ((mostS d at_ : Int) == 99) = true := by simp; omega
          simp only [e9, if_true, hw, Option.bind_some]
      · simp only [Bool.not_eq_true] at hat
        simp only [hat, Bool.not_false, if_true, hw, Option.bind_some]
    · simp only [Bool.not_eq_true] at hok
      simp only [hok, Bool.false_eq_true, if_false]
      rw [hw]; rfl
end Go.Proofs.Yteihdclpiekmaaa
