/-
  The plain law of RainsLost.
-/
import Derived.Test.YtooankffknoomaaPh
import Derived.Test.YtooankffknoomaaGenX
namespace Go.Proofs.Ytooankffknoomaa
open Go Go.RowKit Go.Dec
set_option linter.unusedVariables false
/-- a loop that turns each element -/
theorem loop_map {α : Type} (l : List α) (g : Nat → α → α) {step : Int × List α → Option ((Int × List α) ⊕ List α)} {n : Nat} (k : Nat) (hk : k = l.length)
    (h : ∀ (i : Nat) (out : List α) x, out.length = l.length → out[i]? = some x → l[i]? = some x → step ((i : Int), out) = some (.inl (((i + 1 : Nat) : Int), setx out i (g i x))))
    (hd : ∀ out : List α, out.length = l.length → step ((l.length : Int), out) = some (.inr out)) (hn : l.length < n) : loopO n step (0, l) = some (l.zipIdx.map fun p => g p.2 p.1) := by
  have key := loop_run (step := step) (fun j => ((j : Int), ((l.zipIdx.take j).map fun p => g p.2 p.1) ++ l.drop j)) (r := l.zipIdx.map fun p => g p.2 p.1) l.length 0 n (fun j _ hj => by
    have hjl : j < l.length := by omega
    have e1 : ((l.zipIdx.take j).map fun p => g p.2 p.1).length = j := by simp; omega
    have hlen : (((l.zipIdx.take j).map fun p => g p.2 p.1) ++ l.drop j).length = l.length := by rw [List.length_append, e1, List.length_drop]; omega
    have hget : (((l.zipIdx.take j).map fun p => g p.2 p.1) ++ l.drop j)[j]? = some l[j] := by
      rw [List.getElem?_append_right (by omega), e1, List.getElem?_drop]
      simp [hjl]
    rw [h j _ l[j] hlen hget (List.getElem?_eq_getElem hjl)]
    congr 3
    unfold setx
    rw [Int.toNat_natCast, List.set_append_right _ _ (by omega), e1, Nat.sub_self, List.drop_eq_getElem_cons hjl, List.set_cons_zero]
    have hz : l.zipIdx[j]? = some (l[j], j) := by rw [List.getElem?_zipIdx, List.getElem?_eq_getElem hjl]; simp
    rw [List.take_add_one, hz]
    simp) (by
    simp only [Nat.zero_add]
    have e : ((l.zipIdx.take l.length).map fun p => g p.2 p.1) ++ l.drop l.length = l.zipIdx.map fun p => g p.2 p.1 := by
      rw [List.drop_length, List.append_nil, List.take_of_length_le (by simp)]
    rw [e]
    exact hd _ (by simp)) hn
  simpa using key
def freeT (t : Tour) : Tour := Tour.mk t.Days t.Step t.Rains t.Wrong (t.Fairs.map fun f => Fair.mk 1 f.Sells) t.Reach t.Stock
theorem free_ok {t : Tour} (ho : okTour t = true) : okTour (freeT t) = true := by
  simp only [okTour, okHead, Bool.and_eq_true] at ho
  have h1 := ho.1.2
  have h2 := ho.2
  simp only [okTour, okHead, freeT, Bool.and_eq_true, List.length_map]
  refine ⟨⟨ho.1.1, h1⟩, ?_⟩
  rw [List.all_eq_true] at h2 ⊢
  intro f hf
  obtain ⟨g, hg, rfl⟩ := List.mem_map.1 hf
  have := h2 g hg
  simp only [okFair, Bool.and_eq_true] at this ⊢
  exact ⟨⟨by decide, this.1.2⟩, this.2⟩
theorem free_fair {t : Tour} {a : Int} (h0 : 0 ≤ a) (h1 : a < t.Fairs.length) : fairAt (freeT t) a = ⟨1, (fairAt t a).Sells⟩ := by
  obtain ⟨f, hf, _⟩ := geti_lt h0 h1
  have e : geti (freeT t).Fairs a = some ⟨1, f.Sells⟩ := by
    unfold geti at hf ⊢
    rw [if_pos h0] at hf ⊢
    show ((t.Fairs.map fun f => Fair.mk 1 f.Sells))[a.toNat]? = _
    rw [List.getElem?_map, hf]; rfl
  simp [fairAt, e, hf]
theorem free_trade {t : Tour} : ∀ (l : List (Int × Int)) (s s' : Int × Int), (∀ al ∈ l, 0 ≤ al.1 ∧ al.1 < t.Fairs.length) → s'.2 = s.2 → (l.foldl (tradeStep (freeT t)) s').2 = (l.foldl (tradeStep t) s).2 ∧ (l.foldl (tradeStep (freeT t)) s').1 + (l.foldl (tradeStep (freeT t)) s').2 = s'.1 + s'.2
  | [], s, s', _, h => ⟨h, rfl⟩
  | al :: l, s, s', hl, h => by
    simp only [List.foldl_cons]
    have ha := hl al (List.mem_cons_self ..)
    have e := free_fair ha.1 ha.2
    have k := free_trade l (tradeStep t s al) (tradeStep (freeT t) s' al) (fun x hx => hl x (List.mem_cons_of_mem _ hx)) (by simp only [tradeStep, e, h])
    refine ⟨k.1, k.2.trans ?_⟩
    simp only [tradeStep, e, Int.one_mul]
    omega
theorem span_neg {α : Type} {l : List α} {f g : α → Int} {S : Int} (hne : l ≠ []) (h : ∀ x ∈ l, f x + g x = S) : (spanOf (l.map f)).Low + (spanOf (l.map g)).High = S ∧ (spanOf (l.map f)).High + (spanOf (l.map g)).Low = S := by
  have k1 := span_in (l := l.map f) (by simpa using hne)
  have k2 := span_in (l := l.map g) (by simpa using hne)
  obtain ⟨x1, h1, e1⟩ := List.mem_map.1 k1.1
  obtain ⟨x2, h2, e2⟩ := List.mem_map.1 k1.2
  obtain ⟨x3, h3, e3⟩ := List.mem_map.1 k2.1
  obtain ⟨x4, h4, e4⟩ := List.mem_map.1 k2.2
  have b1 := span_mem (a := g x1) (l := l.map g) (List.mem_map.2 ⟨x1, h1, rfl⟩)
  have b2 := span_mem (a := g x2) (l := l.map g) (List.mem_map.2 ⟨x2, h2, rfl⟩)
  have b3 := span_mem (a := f x3) (l := l.map f) (List.mem_map.2 ⟨x3, h3, rfl⟩)
  have b4 := span_mem (a := f x4) (l := l.map f) (List.mem_map.2 ⟨x4, h4, rfl⟩)
  have c1 := h x1 h1; have c2 := h x2 h2; have c3 := h x3 h3; have c4 := h x4 h4
  omega
theorem known_of' {t u : Tour} (h1 : okTour t = true) (h2 : okTour u = true) (h : truthsT u = truthsT t) (is : Bool) : knownT u is = knownT t is := by
  unfold knownT; rw [h1, h2, h]
theorem law_RainsLost (t : Tour) (route : List Int) (ht : W_Tour t) (_ : ((∀ z ∈ route, I64 z) ∧ route.length ≤ 9223372036854775807)) : ∃ n, F_law11_RainsLost n t route = some true := by
  obtain ⟨n, hn, hw⟩ := works_at
  refine ⟨n, ?_⟩
  simp only [F_law11_RainsLost]
  rcases p_ready hn t (W_fairs ht) with h | ⟨h, hs, hok⟩
  · simp [h, hw]
  · have ho := hok.1
    have hh := okHead_all (Ok.head ho)
    by_cases hl : route.length ≤ 20
    · have e0 : decide (20 < (route.length : Int)) = false := by simp; omega
      by_cases hr : isRouteT t route = true
      · have hrt := isRouteT_rt ho hr
        have o1 := free_ok ho
        have s1 : Sm (freeT t) := ⟨hs.r, by simp [freeT]; exact hs.f, fun f hf => by
          obtain ⟨g, hg, rfl⟩ := List.mem_map.1 hf
          exact hs.s g hg⟩
        have hr1 : isRouteT (freeT t) route = true := by
          have : isRouteT (freeT t) route = isRouteT t route := by unfold isRouteT freeT; simp
          rw [this]; exact hr
        have hloop := loop_map t.Fairs (fun _ f => Fair.mk 1 f.Sells) (step := F_law11_RainsLost_s1 n) (n := n) _ rfl (fun i out x hlen hx _ => by
          have hi := (List.getElem?_eq_some_iff.1 hx).1
          simp only [F_law11_RainsLost_s1, lt_nat, hi, decide_true, if_true, geti_nat, hx, Option.bind_some, w64_nat (show i ≤ 4611686018427387904 by omega)]) (fun out hlen => by simp [F_law11_RainsLost_s1, hlen]) (by omega)
        have e1 : (t.Fairs.zipIdx.map fun p => Fair.mk 1 p.1.Sells) = t.Fairs.map fun f => Fair.mk 1 f.Sells := by
          apply List.ext_getElem?
          intro i
          rw [List.getElem?_map, List.getElem?_map, List.getElem?_zipIdx]
          cases t.Fairs[i]? <;> rfl
        rw [e1] at hloop
        have k1 := known_of' ho o1 rfl true
        simp only [h, e0, Option.bind_some, Bool.not_true, Bool.or_false, Bool.false_eq_true, if_false, p_IsRoute11 hn hl, hr, p_Copy hn hs, hloop]
        rw [show Tour.mk t.Days t.Step t.Rains t.Wrong (t.Fairs.map fun f => Fair.mk 1 f.Sells) t.Reach t.Stock = freeT t from rfl]
        simp only [p_Takes hn s1 hl, p_Left hn s1 hl, p_Left hn hs hl, F_law11_isKnown, Option.bind_some, endsT_err hr, endsT_err hr1, k1, hw]
        rcases known_ok ho true rfl with hk | hk
        · have hk1 : (knownT (freeT t) true).2 = 0 := by rw [k1]; exact hk
          have hne := (knownT_ok hk).2.2.1
          have ends : ∀ g, endsT t route g = (spanOf ((truthsT t).map fun l => g (trade t route l)), 0) := fun g => by unfold endsT; rw [hr, if_pos hk]
          have ends' : ∀ g, endsT (freeT t) route g = (spanOf ((truthsT t).map fun l => g (trade (freeT t) route l)), 0) := fun g => by
            unfold endsT
            rw [hr1, if_pos hk1]
            rfl
          have hall : ∀ l ∈ truthsT t, (trade (freeT t) route l).2 = (trade t route l).2 ∧ (trade (freeT t) route l).1 + (trade (freeT t) route l).2 = t.Stock := fun l hlm => by
            have := free_trade (route.zip l) (0, t.Stock) (0, t.Stock) (fun al hal => by
              have := hrt.2 al.1 (List.of_mem_zip (a := al.1) (b := al.2) hal).1
              exact this) rfl
            refine ⟨this.1, ?_⟩
            have := this.2
            simp only [Int.zero_add] at this
            exact this
          have e2 : ((truthsT t).map fun l => (trade (freeT t) route l).2) = (truthsT t).map fun l => (trade t route l).2 := List.map_congr_left fun l hlm => (hall l hlm).1
          have sn := span_neg (f := fun l => (trade (freeT t) route l).1) (g := fun l => (trade (freeT t) route l).2) (S := t.Stock) hne (fun l hlm => (hall l hlm).2)
          rw [e2] at sn
          have hinv : ∀ l ∈ truthsT t, trInv (trade t route l) := fun l hlm => trade_inv ho hrt (truths_lv ho l hlm)
          have hlo := span_in (l := (truthsT t).map fun l => (trade t route l).2) (by simpa using hne)
          obtain ⟨y1, hy1, q1⟩ := List.mem_map.1 hlo.1
          obtain ⟨y2, hy2, q2⟩ := List.mem_map.1 hlo.2
          have i1 := hinv y1 hy1
          have i2 := hinv y2 hy2
          unfold trInv at i1 i2
          simp only [ends, ends', hk, e2]
          rw [w64_id (n := (spanOf _).Low + (spanOf _).High) (by omega) (by omega), w64_id (n := (spanOf _).High + (spanOf _).Low) (by omega) (by omega), sn.1, sn.2]
          have : (0 : Int) ≤ (spanOf ((truthsT t).map fun l => (trade t route l).2)).Low := by omega
          simp [this]
        · rw [hk]; simp
      · simp [h, e0, p_IsRoute11 hn hl, hr, hw]
    · have e0 : decide (20 < (route.length : Int)) = true := by simp; omega
      simp [h, e0, hw]
end Go.Proofs.Ytooankffknoomaa
