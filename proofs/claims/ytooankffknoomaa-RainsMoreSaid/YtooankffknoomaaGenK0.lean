/-
  Printed by a program: functions of the translation as plain functions, and their contracts.
-/
import Derived.Test.YtooankffknoomaaGenT
namespace Go.Proofs.Ytooankffknoomaa
open Go Go.RowKit Go.Dec
set_option linter.unusedVariables false
-- 61 ferrule/rains.within
def F_rains_within (n : Nat) (n_ : Int) (low : Int) (high : Int) : Option Bool :=
  some ((decide (low ≤ n_)) && (decide (n_ ≤ high)))
set_option maxRecDepth 100000 in
set_option maxHeartbeats 40000000 in
theorem c_rains_within (n : Nat) (H : Hp) (n_ : Int) (low : Int) (high : Int) (y : Bool) (hF : F_rains_within n n_ low high = some y) : SC Try.prog 61 [.int .i64 n_, .int .i64 low, .int .i64 high] (.bool y) H := by
  rw [F_rains_within] at hF
  refine SC.of (N := 15) Try.func61 rfl rfl rfl fun w => ?_
  refine JC.seq ?_
  refine JC.region (by rfl) ?_
  intro hQ
  refine JL.assign .none rfl ?_
  refine JL.done hQ ?_
  refine JQ.go ?_
  refine JC.seq ?_
  refine JC.region (by rfl) ?_
  intro hQ
  refine JL.move .none rfl ?_
  refine JL.move .none rfl ?_
  refine JL.bin rfl rfl rfl .none rfl ?_
  refine JL.move .none rfl ?_
  refine JL.cut 4 (fun f => f 14 = .bool ((decide (low ≤ n_)) && (decide (n_ ≤ high)))) ?_ ?_
  · intro hJ1
    rcases bcases (decide (low ≤ n_)) with hc2 | hc2
    · skip
      refine JL.move (.some rfl rfl rfl hc2) rfl ?_
      refine JL.move (.some rfl rfl rfl hc2) rfl ?_
      refine JL.bin rfl rfl rfl (.some rfl rfl rfl hc2) rfl ?_
      refine JL.pick_t (b := decide (low ≤ n_)) rfl hc2 .none rfl ?_
      exact hJ1 _ (and_t hc2 rfl)
    · skip
      refine JL.skip (.bool rfl rfl rfl hc2) rfl ?_
      refine JL.skip (.bool rfl rfl rfl hc2) rfl ?_
      refine JL.skip (.bool rfl rfl rfl hc2) rfl ?_
      refine JL.pick_f (b := decide (low ≤ n_)) rfl hc2 .none rfl ?_
      exact hJ1 _ (and_f hc2 rfl)
  · rintro f hf14
    refine (JL.norm (i := 14) hf14 ?_)
    refine JL.assign .none rfl ?_
    refine JL.done hQ ?_
    refine JQ.go ?_
    refine JC.ret ?_
    obtain rfl := Option.some.inj hF
    exact JQ.outS rfl (.tmp .nil) rfl

-- 77 ferrule/ferruleref07.Within
def F_ref07_Within (n : Nat) (n_ : Int) (low : Int) (high : Int) : Option Bool :=
  some ((decide (low ≤ n_)) && (decide (n_ ≤ high)))
set_option maxRecDepth 100000 in
set_option maxHeartbeats 40000000 in
theorem c_ref07_Within (n : Nat) (H : Hp) (n_ : Int) (low : Int) (high : Int) (y : Bool) (hF : F_ref07_Within n n_ low high = some y) : SC Try.prog 77 [.int .i64 n_, .int .i64 low, .int .i64 high] (.bool y) H := by
  rw [F_ref07_Within] at hF
  refine SC.of (N := 15) Try.func77 rfl rfl rfl fun w => ?_
  refine JC.seq ?_
  refine JC.region (by rfl) ?_
  intro hQ
  refine JL.assign .none rfl ?_
  refine JL.done hQ ?_
  refine JQ.go ?_
  refine JC.seq ?_
  refine JC.region (by rfl) ?_
  intro hQ
  refine JL.move .none rfl ?_
  refine JL.move .none rfl ?_
  refine JL.bin rfl rfl rfl .none rfl ?_
  refine JL.move .none rfl ?_
  refine JL.cut 4 (fun f => f 14 = .bool ((decide (low ≤ n_)) && (decide (n_ ≤ high)))) ?_ ?_
  · intro hJ1
    rcases bcases (decide (low ≤ n_)) with hc2 | hc2
    · skip
      refine JL.move (.some rfl rfl rfl hc2) rfl ?_
      refine JL.move (.some rfl rfl rfl hc2) rfl ?_
      refine JL.bin rfl rfl rfl (.some rfl rfl rfl hc2) rfl ?_
      refine JL.pick_t (b := decide (low ≤ n_)) rfl hc2 .none rfl ?_
      exact hJ1 _ (and_t hc2 rfl)
    · skip
      refine JL.skip (.bool rfl rfl rfl hc2) rfl ?_
      refine JL.skip (.bool rfl rfl rfl hc2) rfl ?_
      refine JL.skip (.bool rfl rfl rfl hc2) rfl ?_
      refine JL.pick_f (b := decide (low ≤ n_)) rfl hc2 .none rfl ?_
      exact hJ1 _ (and_f hc2 rfl)
  · rintro f hf14
    refine (JL.norm (i := 14) hf14 ?_)
    refine JL.assign .none rfl ?_
    refine JL.done hQ ?_
    refine JQ.go ?_
    refine JC.ret ?_
    obtain rfl := Option.some.inj hF
    exact JQ.outS rfl (.tmp .nil) rfl

-- 65 ferrule/ferruleref11.within
def F_ref11_within (n : Nat) (n_ : Int) (low : Int) (high : Int) : Option Bool :=
  (F_ref07_Within n n_ low high).bind fun y1 => some y1
set_option maxRecDepth 100000 in
set_option maxHeartbeats 40000000 in
theorem c_ref11_within (n : Nat) (H : Hp) (n_ : Int) (low : Int) (high : Int) (y : Bool) (hF : F_ref11_within n n_ low high = some y) : SC Try.prog 65 [.int .i64 n_, .int .i64 low, .int .i64 high] (.bool y) H := by
  rw [F_ref11_within] at hF
  refine SC.of (N := 11) Try.func65 rfl rfl rfl fun w => ?_
  refine JC.seq ?_
  refine JC.region (by rfl) ?_
  intro hQ
  refine JL.assign .none rfl ?_
  refine JL.done hQ ?_
  refine JQ.go ?_
  refine JC.seq ?_
  refine JC.region (by rfl) ?_
  intro hQ
  refine JL.move .none rfl ?_
  refine JL.move .none rfl ?_
  refine JL.move .none rfl ?_
  obtain ⟨y1, hy1, hF⟩ := bind_some hF
  refine JL.callS (c_ref07_Within n H n_ low high y1 hy1) rfl en_77 .none rfl ?_
  refine JL.assign .none rfl ?_
  refine JL.done hQ ?_
  refine JQ.go ?_
  refine JC.ret ?_
  obtain rfl := Option.some.inj hF
  exact JQ.outS rfl (.tmp .nil) rfl

-- 38 ferrule/ferruleref11.Check
def F_ref11_Check_s1 (n : Nat) (t : Tour) : Int → Option (Int ⊕ (Int ⊕ Unit))
  | i_215 => if decide (i_215 < (t.Rains.length : Int)) = true then ((geti t.Rains i_215).bind fun y220 => (geti t.Rains i_215).bind fun y239 => (F_ref11_within n y239.Day 0 (w64 (t.Days - 1))).bind fun y244 => (if (!y244) = true then (some true) else ((F_ref11_within n y220.Level.Low 0 y220.Level.High).bind fun y249 => some (!y249)) : Option Bool).bind fun p246 => if (p246 || (decide (3 < y220.Level.High))) = true then (some (Sum.inr (Sum.inl 110))) else (some (Sum.inl (w64 (i_215 + 1))))) else (some (Sum.inr (Sum.inr ())))
def F_ref11_Check_s3 (n : Nat) (y657 : Fair) : Int → Option (Int ⊕ ((Int ⊕ (Int ⊕ Unit)) ⊕ Unit))
  | k_721 => if decide (k_721 < (y657.Sells.length : Int)) = true then ((geti y657.Sells k_721).bind fun y726 => (F_ref11_within n y726 0 99).bind fun y731 => if (!y731) = true then (some (Sum.inr (Sum.inl (Sum.inr (Sum.inl 110))))) else (some (Sum.inl (w64 (k_721 + 1))))) else (some (Sum.inr (Sum.inr ())))
def F_ref11_Check_s2 (n : Nat) (t : Tour) : Int → Option (Int ⊕ (Int ⊕ Unit))
  | i_652 => if decide (i_652 < (t.Fairs.length : Int)) = true then ((geti t.Fairs i_652).bind fun y657 => (F_ref11_within n y657.Price 0 999).bind fun y663 => if ((!y663) || ((y657.Sells.length : Int) != 4)) = true then (some (Sum.inr (Sum.inl 110))) else ((loopO n (F_ref11_Check_s3 n y657) 0).bind fun r700 => match r700 with | .inl o => some o | .inr _ => some (Sum.inl (w64 (i_652 + 1))))) else (some (Sum.inr (Sum.inr ())))
def F_ref11_Check (n : Nat) (t : Tour) : Option Int :=
  (F_ref11_within n t.Days 1 6).bind fun y2 => (if (!y2) = true then (some true) else ((F_ref11_within n t.Step 0 3).bind fun y7 => some (!y7)) : Option Bool).bind fun p4 => (if p4 = true then (some true) else ((F_ref11_within n t.Wrong 0 10).bind fun y12 => some (!y12)) : Option Bool).bind fun p9 => (if p9 = true then (some true) else ((F_ref11_within n t.Reach 0 4).bind fun y17 => some (!y17)) : Option Bool).bind fun p14 => (if p14 = true then (some true) else ((F_ref11_within n t.Stock 0 999).bind fun y22 => some (!y22)) : Option Bool).bind fun p19 => (if (p19 || (decide (10 < (t.Rains.length : Int)))) = true then (some true) else ((F_ref11_within n (t.Fairs.length : Int) 1 4).bind fun y29 => some (!y29)) : Option Bool).bind fun p26 => if p26 = true then (some 110) else ((loopO n (F_ref11_Check_s1 n t) 0).bind fun r142 => match r142 with | .inl o => some o | .inr _ => (loopO n (F_ref11_Check_s2 n t) 0).bind fun r493 => match r493 with | .inl o => some o | .inr _ => some 0)
set_option maxRecDepth 100000 in
set_option maxHeartbeats 40000000 in
theorem c_ref11_Check (n : Nat) (H : Hp) (t : Tour) (t_v2 : Value) (ht_2 : SL H 3 R_Rain t_v2 t.Rains) (t_v4 : Value) (ht_4 : SL H 2 R_Fair t_v4 t.Fairs) (y : Int) (hF : F_ref11_Check n t = some y) : SC Try.prog 38 [.agg [.int .i64 t.Days, .int .i64 t.Step, t_v2, .int .i64 t.Wrong, t_v4, .int .i64 t.Reach, .int .i64 t.Stock].toArray] (.int .i64 y) H := by
  rw [F_ref11_Check] at hF
  refine SC.of (N := 122) Try.func38 rfl rfl rfl fun w => ?_
  refine JC.seq ?_
  refine JC.region (by rfl) ?_
  intro hQ
  refine JL.box (cs := [.int .i64 t.Days, .int .i64 t.Step, t_v2, .int .i64 t.Wrong, t_v4, .int .i64 t.Reach, .int .i64 t.Stock]) rfl .none rfl ?_
  intro b1
  refine JL.assign .none rfl ?_
  refine JL.done hQ ?_
  refine JQ.go ?_
  refine JC.seq ?_
  refine JC.seq ?_
  refine JC.region (by rfl) ?_
  intro hQ
  refine JL.fieldAddr fo_25_0 rfl .none rfl ?_
  refine JL.loadOwn 0 az_3 rfl rfl rfl .none rfl ?_
  obtain ⟨y2, hy2, hF⟩ := bind_some hF
  refine JL.callS (c_ref11_within n H t.Days 1 6 y2 hy2) rfl en_65 .none rfl ?_
  refine JL.not rfl .none rfl ?_
  refine JL.move .none rfl ?_
  obtain ⟨p4, hp4, hF⟩ := bind_some hF
  refine JL.cut 5 (fun f => f 1 = .pointer (some ⟨b1, 0, none⟩) ∧ f 17 = .bool p4) ?_ ?_
  · intro hJ5
    rcases ite_some hp4 with ⟨hc6, hF⟩ | ⟨hc6, hF⟩
    · skip
      refine JL.skip (.bool rfl rfl rfl hc6) rfl ?_
      refine JL.skip (.bool rfl rfl rfl hc6) rfl ?_
      refine JL.skip (.bool rfl rfl rfl hc6) rfl ?_
      refine JL.skip (.bool rfl rfl rfl hc6) rfl ?_
      refine JL.pick_t (b := (!y2)) rfl hc6 .none rfl ?_
      obtain rfl := Option.some.inj hF
      exact hJ5 _ ⟨rfl, rfl⟩
    · skip
      refine JL.fieldAddr fo_25_1 rfl (.some rfl rfl rfl hc6) rfl ?_
      refine JL.loadOwn 0 az_3 rfl rfl rfl (.some rfl rfl rfl hc6) rfl ?_
      obtain ⟨y7, hy7, hF⟩ := bind_some hF
      refine JL.callS (c_ref11_within n H t.Step 0 3 y7 hy7) rfl en_65 (.some rfl rfl rfl hc6) rfl ?_
      refine JL.not rfl (.some rfl rfl rfl hc6) rfl ?_
      refine JL.pick_f (b := (!y2)) rfl hc6 .none rfl ?_
      obtain rfl := Option.some.inj hF
      exact hJ5 _ ⟨rfl, rfl⟩
  · rintro f ⟨hf1, hf17⟩
    refine (JL.norm (i := 1) hf1 (JL.norm (i := 17) hf17 ?_))
    refine JL.move .none rfl ?_
    obtain ⟨p9, hp9, hF⟩ := bind_some hF
    refine JL.cut 5 (fun f => f 1 = .pointer (some ⟨b1, 0, none⟩) ∧ f 23 = .bool p9) ?_ ?_
    · intro hJ10
      rcases ite_some hp9 with ⟨hc11, hF⟩ | ⟨hc11, hF⟩
      · skip
        refine JL.skip (.bool rfl rfl rfl hc11) rfl ?_
        refine JL.skip (.bool rfl rfl rfl hc11) rfl ?_
        refine JL.skip (.bool rfl rfl rfl hc11) rfl ?_
        refine JL.skip (.bool rfl rfl rfl hc11) rfl ?_
        refine JL.pick_t (b := p4) rfl hc11 .none rfl ?_
        obtain rfl := Option.some.inj hF
        exact hJ10 _ ⟨rfl, rfl⟩
      · skip
        refine JL.fieldAddr fo_25_3 rfl (.some rfl rfl rfl hc11) rfl ?_
        refine JL.loadOwn 0 az_3 rfl rfl rfl (.some rfl rfl rfl hc11) rfl ?_
        obtain ⟨y12, hy12, hF⟩ := bind_some hF
        refine JL.callS (c_ref11_within n H t.Wrong 0 10 y12 hy12) rfl en_65 (.some rfl rfl rfl hc11) rfl ?_
        refine JL.not rfl (.some rfl rfl rfl hc11) rfl ?_
        refine JL.pick_f (b := p4) rfl hc11 .none rfl ?_
        obtain rfl := Option.some.inj hF
        exact hJ10 _ ⟨rfl, rfl⟩
    · rintro f ⟨hf1, hf23⟩
      refine (JL.norm (i := 1) hf1 (JL.norm (i := 23) hf23 ?_))
      refine JL.move .none rfl ?_
      obtain ⟨p14, hp14, hF⟩ := bind_some hF
      refine JL.cut 5 (fun f => f 1 = .pointer (some ⟨b1, 0, none⟩) ∧ f 29 = .bool p14) ?_ ?_
      · intro hJ15
        rcases ite_some hp14 with ⟨hc16, hF⟩ | ⟨hc16, hF⟩
        · skip
          refine JL.skip (.bool rfl rfl rfl hc16) rfl ?_
          refine JL.skip (.bool rfl rfl rfl hc16) rfl ?_
          refine JL.skip (.bool rfl rfl rfl hc16) rfl ?_
          refine JL.skip (.bool rfl rfl rfl hc16) rfl ?_
          refine JL.pick_t (b := p9) rfl hc16 .none rfl ?_
          obtain rfl := Option.some.inj hF
          exact hJ15 _ ⟨rfl, rfl⟩
        · skip
          refine JL.fieldAddr fo_25_5 rfl (.some rfl rfl rfl hc16) rfl ?_
          refine JL.loadOwn 0 az_3 rfl rfl rfl (.some rfl rfl rfl hc16) rfl ?_
          obtain ⟨y17, hy17, hF⟩ := bind_some hF
          refine JL.callS (c_ref11_within n H t.Reach 0 4 y17 hy17) rfl en_65 (.some rfl rfl rfl hc16) rfl ?_
          refine JL.not rfl (.some rfl rfl rfl hc16) rfl ?_
          refine JL.pick_f (b := p9) rfl hc16 .none rfl ?_
          obtain rfl := Option.some.inj hF
          exact hJ15 _ ⟨rfl, rfl⟩
      · rintro f ⟨hf1, hf29⟩
        refine (JL.norm (i := 1) hf1 (JL.norm (i := 29) hf29 ?_))
        refine JL.move .none rfl ?_
        obtain ⟨p19, hp19, hF⟩ := bind_some hF
        refine JL.cut 5 (fun f => f 1 = .pointer (some ⟨b1, 0, none⟩) ∧ f 35 = .bool p19) ?_ ?_
        · intro hJ20
          rcases ite_some hp19 with ⟨hc21, hF⟩ | ⟨hc21, hF⟩
          · skip
            refine JL.skip (.bool rfl rfl rfl hc21) rfl ?_
            refine JL.skip (.bool rfl rfl rfl hc21) rfl ?_
            refine JL.skip (.bool rfl rfl rfl hc21) rfl ?_
            refine JL.skip (.bool rfl rfl rfl hc21) rfl ?_
            refine JL.pick_t (b := p14) rfl hc21 .none rfl ?_
            obtain rfl := Option.some.inj hF
            exact hJ20 _ ⟨rfl, rfl⟩
          · skip
            refine JL.fieldAddr fo_25_6 rfl (.some rfl rfl rfl hc21) rfl ?_
            refine JL.loadOwn 0 az_3 rfl rfl rfl (.some rfl rfl rfl hc21) rfl ?_
            obtain ⟨y22, hy22, hF⟩ := bind_some hF
            refine JL.callS (c_ref11_within n H t.Stock 0 999 y22 hy22) rfl en_65 (.some rfl rfl rfl hc21) rfl ?_
            refine JL.not rfl (.some rfl rfl rfl hc21) rfl ?_
            refine JL.pick_f (b := p14) rfl hc21 .none rfl ?_
            obtain rfl := Option.some.inj hF
            exact hJ20 _ ⟨rfl, rfl⟩
        · rintro f ⟨hf1, hf35⟩
          refine (JL.norm (i := 1) hf1 (JL.norm (i := 35) hf35 ?_))
          refine JL.move .none rfl ?_
          refine JL.cut 5 (fun f => f 1 = .pointer (some ⟨b1, 0, none⟩) ∧ f 41 = .bool (p19 || (decide (10 < (t.Rains.length : Int))))) ?_ ?_
          · intro hJ23
            rcases bcases p19 with hc24 | hc24
            · skip
              refine JL.skip (.bool rfl rfl rfl hc24) rfl ?_
              refine JL.skip (.bool rfl rfl rfl hc24) rfl ?_
              refine JL.skip (.bool rfl rfl rfl hc24) rfl ?_
              refine JL.skip (.bool rfl rfl rfl hc24) rfl ?_
              refine JL.pick_t (b := p19) rfl hc24 .none rfl ?_
              exact hJ23 _ ⟨rfl, or_t hc24 rfl⟩
            · skip
              refine JL.fieldAddr fo_25_2 rfl (.some rfl rfl rfl hc24) rfl ?_
              refine JL.loadOwn 0 az_22 rfl rfl rfl (.some rfl rfl rfl hc24) rfl ?_
              refine JL.lenSL (R := R_Rain) ul_22 ht_2 (.some rfl rfl rfl hc24) rfl ?_
              refine JL.bin rfl rfl rfl (.some rfl rfl rfl hc24) rfl ?_
              refine JL.pick_f (b := p19) rfl hc24 .none rfl ?_
              exact hJ23 _ ⟨rfl, or_f hc24 rfl⟩
          · rintro f ⟨hf1, hf41⟩
            refine (JL.norm (i := 1) hf1 (JL.norm (i := 41) hf41 ?_))
            refine JL.move .none rfl ?_
            obtain ⟨p26, hp26, hF⟩ := bind_some hF
            refine JL.cut 6 (fun f => f 1 = .pointer (some ⟨b1, 0, none⟩) ∧ f 48 = .bool p26) ?_ ?_
            · intro hJ27
              rcases ite_some hp26 with ⟨hc28, hF⟩ | ⟨hc28, hF⟩
              · skip
                refine JL.skip (.bool rfl rfl rfl hc28) rfl ?_
                refine JL.skip (.bool rfl rfl rfl hc28) rfl ?_
                refine JL.skip (.bool rfl rfl rfl hc28) rfl ?_
                refine JL.skip (.bool rfl rfl rfl hc28) rfl ?_
                refine JL.skip (.bool rfl rfl rfl hc28) rfl ?_
                refine JL.pick_t (b := (p19 || (decide (10 < (t.Rains.length : Int))))) rfl hc28 .none rfl ?_
                obtain rfl := Option.some.inj hF
                exact hJ27 _ ⟨rfl, rfl⟩
              · skip
                refine JL.fieldAddr fo_25_4 rfl (.some rfl rfl rfl hc28) rfl ?_
                refine JL.loadOwn 0 az_23 rfl rfl rfl (.some rfl rfl rfl hc28) rfl ?_
                refine JL.lenSL (R := R_Fair) ul_23 ht_4 (.some rfl rfl rfl hc28) rfl ?_
                obtain ⟨y29, hy29, hF⟩ := bind_some hF
                refine JL.callS (c_ref11_within n H (t.Fairs.length : Int) 1 4 y29 hy29) rfl en_65 (.some rfl rfl rfl hc28) rfl ?_
                refine JL.not rfl (.some rfl rfl rfl hc28) rfl ?_
                refine JL.pick_f (b := (p19 || (decide (10 < (t.Rains.length : Int))))) rfl hc28 .none rfl ?_
                obtain rfl := Option.some.inj hF
                exact hJ27 _ ⟨rfl, rfl⟩
            · rintro f ⟨hf1, hf48⟩
              refine (JL.norm (i := 1) hf1 (JL.norm (i := 48) hf48 ?_))
              refine JL.done hQ ?_
              refine JQ.go ?_
              rcases ite_some hF with ⟨hc30, hF⟩ | ⟨hc30, hF⟩
              · refine JC.cond_t (b := p26) rfl hc30 ?_
                refine JC.seq ?_
                refine JC.region (by rfl) ?_
                intro hQ
                refine JL.assign .none rfl ?_
                refine JL.done hQ ?_
                refine JQ.go ?_
                refine JC.ret ?_
                refine JQ.ret_then ?_
                obtain rfl := Option.some.inj hF
                exact JQ.outS rfl (.tmp .nil) rfl
              · refine JC.cond_f (b := p26) rfl hc30 ?_
                refine JC.skip ?_
                refine JQ.go ?_
                refine JC.seq ?_
                refine JC.seq ?_
                refine JC.region (by rfl) ?_
                intro hQ
                refine JL.assign .none rfl ?_
                refine JL.done hQ ?_
                refine JQ.go ?_
                obtain ⟨r142, hlr142, hKr142⟩ := bind_some hF
                refine JC.join (fun (_ : Unit) H141 f bs gs => f 1 = .pointer (some ⟨b1, 0, none⟩) ∧ bs = [(b1, .cells [.int .i64 t.Days, .int .i64 t.Step, t_v2, .int .i64 t.Wrong, t_v4, .int .i64 t.Reach, .int .i64 t.Stock].toArray 25)] ∧ gs = [] ∧ HSub H H141 ∧ Sum.inr () = r142) ?_ ?_
                · skip
                  refine JC.block ?_
                  refine JC.loop hlr142 (fun (i_215 : Int) H216 f bs gs => f 1 = .pointer (some ⟨b1, 0, none⟩) ∧ f 3 = .int .i64 i_215 ∧ bs = [(b1, .cells [.int .i64 t.Days, .int .i64 t.Step, t_v2, .int .i64 t.Wrong, t_v4, .int .i64 t.Reach, .int .i64 t.Stock].toArray 25)] ∧ gs = [] ∧ HSub H H216) ⟨rfl, rfl, rfl, rfl, (HSub.refl _)⟩ ?_
                  rintro i_215 x218 H216 f bs gs ⟨hf1, hf3, rfl, rfl, hs216⟩ hF hr217
                  rw [F_ref11_Check_s1] at hF
                  refine (JC.norm (i := 1) hf1 (JC.norm (i := 3) hf3 ?_))
                  refine JC.seq ?_
                  refine JC.seq ?_
                  refine JC.region (by rfl) ?_
                  intro hQ
                  refine JL.move .none rfl ?_
                  refine JL.fieldAddr fo_25_2 rfl .none rfl ?_
                  refine JL.loadOwn 0 az_22 rfl rfl rfl .none rfl ?_
                  refine JL.lenSL (R := R_Rain) ul_22 (SL.mono R_Rain_mono hs216 ht_2) .none rfl ?_
                  refine JL.bin rfl rfl rfl .none rfl ?_
                  refine JL.done hQ ?_
                  refine JQ.go ?_
                  rcases ite_some hF with ⟨hc219, hF⟩ | ⟨hc219, hF⟩
                  · refine JC.cond_t (b := decide (i_215 < (t.Rains.length : Int))) rfl hc219 ?_
                    refine JC.skip ?_
                    refine JQ.go ?_
                    refine JC.seq ?_
                    refine JC.block ?_
                    refine JC.seq ?_
                    refine JC.region (by rfl) ?_
                    intro hQ
                    refine JL.fieldAddr fo_25_2 rfl .none rfl ?_
                    refine JL.loadOwn 0 az_22 rfl rfl rfl .none rfl ?_
                    refine JL.move .none rfl ?_
                    obtain ⟨y220, hy220, hF⟩ := bind_some hF
                    refine JL.indexSL (R := R_Rain) sl_22 (SL.mono R_Rain_mono hs216 ht_2) rfl hy220 .none rfl ?_
                    rintro b221 o222 cs223 hc224 - rfl
                    refine JL.fieldAddr fo_37_1 rfl .none rfl ?_
                    refine JL.loadH 1 az_31 rfl hc224 rfl .none rfl ?_
                    refine JL.alloc ze_31 .none rfl ?_
                    intro b225
                    refine JL.storeOwn 0 (cs := [.int .i64 y220.Level.Low, .int .i64 y220.Level.High]) az_31 rfl rfl rfl (one_cons rfl (one_cons rfl one_nil)) rfl rfl .none ?_
                    refine JL.done hQ ?_
                    refine JQ.go ?_
                    refine JC.fresh (fun f => f 1 = .pointer (some ⟨b1, 0, none⟩) ∧ f 3 = .int .i64 i_215 ∧ f 4 = .pointer (some ⟨b225, 0, none⟩)) ⟨rfl, rfl, rfl⟩ ?_
                    rintro f ⟨hf1, hf3, hf4⟩
                    refine (JC.norm (i := 1) hf1 (JC.norm (i := 3) hf3 (JC.norm (i := 4) hf4 ?_)))
                    refine JC.seq ?_
                    refine JC.draw (by rfl) mo_ (by kernel_rfl) ?_
                    intro hQ
                    refine JL.fieldAddr fo_25_2 rfl .none rfl ?_
                    refine JL.loadOwn 1 az_22 rfl rfl rfl .none rfl ?_
                    refine JL.move .none rfl ?_
                    obtain ⟨y239, hy239, hF⟩ := bind_some hF
                    refine JL.indexSL (R := R_Rain) sl_22 (SL.mono R_Rain_mono hs216 ht_2) rfl hy239 .none rfl ?_
                    rintro b240 o241 cs242 hc243 - rfl
                    refine JL.fieldAddr fo_37_0 rfl .none rfl ?_
                    refine JL.loadH 0 az_3 rfl hc243 rfl .none rfl ?_
                    refine JL.fieldAddr fo_25_0 rfl .none rfl ?_
                    refine JL.loadOwn 1 az_3 rfl rfl rfl .none rfl ?_
                    refine JL.bin rfl rfl rfl .none rfl ?_
                    obtain ⟨y244, hy244, hF⟩ := bind_some hF
                    refine JL.callS (c_ref11_within n H216 y239.Day 0 (w64 (t.Days - 1)) y244 hy244) rfl en_65 .none rfl ?_
                    refine JL.not rfl .none rfl ?_
                    refine JL.move .none rfl ?_
                    obtain ⟨p246, hp246, hF⟩ := bind_some hF
                    refine JL.cut 7 (fun f => f 1 = .pointer (some ⟨b1, 0, none⟩) ∧ f 3 = .int .i64 i_215 ∧ f 4 = .pointer (some ⟨b225, 0, none⟩) ∧ f 80 = .bool p246) ?_ ?_
                    · intro hJ247
                      rcases ite_some hp246 with ⟨hc248, hF⟩ | ⟨hc248, hF⟩
                      · skip
                        refine JL.skip (.bool rfl rfl rfl hc248) rfl ?_
                        refine JL.skip (.bool rfl rfl rfl hc248) rfl ?_
                        refine JL.skip (.bool rfl rfl rfl hc248) rfl ?_
                        refine JL.skip (.bool rfl rfl rfl hc248) rfl ?_
                        refine JL.skip (.bool rfl rfl rfl hc248) rfl ?_
                        refine JL.skip (.bool rfl rfl rfl hc248) rfl ?_
                        refine JL.pick_t (b := (!y244)) rfl hc248 .none rfl ?_
                        obtain rfl := Option.some.inj hF
                        exact hJ247 _ ⟨rfl, rfl, rfl, rfl⟩
                      · skip
                        refine JL.fieldAddr fo_31_0 rfl (.some rfl rfl rfl hc248) rfl ?_
                        refine JL.loadOwn 0 az_3 rfl rfl rfl (.some rfl rfl rfl hc248) rfl ?_
                        refine JL.fieldAddr fo_31_1 rfl (.some rfl rfl rfl hc248) rfl ?_
                        refine JL.loadOwn 0 az_3 rfl rfl rfl (.some rfl rfl rfl hc248) rfl ?_
                        obtain ⟨y249, hy249, hF⟩ := bind_some hF
                        refine JL.callS (c_ref11_within n H216 y220.Level.Low 0 y220.Level.High y249 hy249) rfl en_65 (.some rfl rfl rfl hc248) rfl ?_
                        refine JL.not rfl (.some rfl rfl rfl hc248) rfl ?_
                        refine JL.pick_f (b := (!y244)) rfl hc248 .none rfl ?_
                        obtain rfl := Option.some.inj hF
                        exact hJ247 _ ⟨rfl, rfl, rfl, rfl⟩
                    · rintro f ⟨hf1, hf3, hf4, hf80⟩
                      refine (JL.norm (i := 1) hf1 (JL.norm (i := 3) hf3 (JL.norm (i := 4) hf4 (JL.norm (i := 80) hf80 ?_))))
                      refine JL.move .none rfl ?_
                      refine JL.cut 4 (fun f => f 1 = .pointer (some ⟨b1, 0, none⟩) ∧ f 3 = .int .i64 i_215 ∧ f 85 = .bool (p246 || (decide (3 < y220.Level.High)))) ?_ ?_
                      · intro hJ250
                        rcases bcases p246 with hc251 | hc251
                        · skip
                          refine JL.skip (.bool rfl rfl rfl hc251) rfl ?_
                          refine JL.skip (.bool rfl rfl rfl hc251) rfl ?_
                          refine JL.skip (.bool rfl rfl rfl hc251) rfl ?_
                          refine JL.pick_t (b := p246) rfl hc251 .none rfl ?_
                          exact hJ250 _ ⟨rfl, rfl, or_t hc251 rfl⟩
                        · skip
                          refine JL.fieldAddr fo_31_1 rfl (.some rfl rfl rfl hc251) rfl ?_
                          refine JL.loadOwn 0 az_3 rfl rfl rfl (.some rfl rfl rfl hc251) rfl ?_
                          refine JL.bin rfl rfl rfl (.some rfl rfl rfl hc251) rfl ?_
                          refine JL.pick_f (b := p246) rfl hc251 .none rfl ?_
                          exact hJ250 _ ⟨rfl, rfl, or_f hc251 rfl⟩
                      · rintro f ⟨hf1, hf3, hf85⟩
                        refine (JL.norm (i := 1) hf1 (JL.norm (i := 3) hf3 (JL.norm (i := 85) hf85 ?_)))
                        refine JL.doneQ hQ ?_
                        refine JQ.go ?_
                        rcases ite_some hF with ⟨hc252, hF⟩ | ⟨hc252, hF⟩
                        · refine JC.cond_t (b := (p246 || (decide (3 < y220.Level.High)))) rfl hc252 ?_
                          refine JC.seq ?_
                          refine JC.region (by rfl) ?_
                          intro hQ
                          refine JL.assign .none rfl ?_
                          refine JL.done hQ ?_
                          refine JQ.go ?_
                          refine JC.ret ?_
                          refine JQ.ret_block ?_
                          refine JQ.ret_then ?_
                          refine JQ.ret_then ?_
                          refine JQ.ret_block ?_
                          refine JQ.ret_join ?_
                          refine JQ.ret_then ?_
                          obtain rfl := Option.some.inj hF
                          have ehr217 := hr217 _ rfl
                          subst ehr217
                          have hF := hKr142
                          try dsimp only at hF
                          obtain rfl := Option.some.inj hF
                          exact JQ.outS rfl (.tmp .nil) rfl
                        · refine JC.cond_f (b := (p246 || (decide (3 < y220.Level.High)))) rfl hc252 ?_
                          refine JC.skip ?_
                          refine JQ.normal_block ?_
                          refine JQ.go ?_
                          refine JC.region (by rfl) ?_
                          intro hQ
                          refine JL.move .none rfl ?_
                          refine JL.bin rfl rfl rfl .none rfl ?_
                          refine JL.assign .none rfl ?_
                          refine JL.done hQ ?_
                          obtain rfl := Option.some.inj hF
                          refine JQ.mask [false, true] [] ?_
                          exact JQ.next rfl ⟨rfl, rfl, rfl, rfl, hs216⟩
                  · refine JC.cond_f (b := decide (i_215 < (t.Rains.length : Int))) rfl hc219 ?_
                    refine JC.exit ?_
                    refine JQ.exit_then ?_
                    refine JQ.exit_then ?_
                    refine JQ.exit_block ?_
                    obtain rfl := Option.some.inj hF
                    have ehr217 := hr217 _ rfl
                    subst ehr217
                    exact JQ.join () ⟨rfl, rfl, rfl, hs216, rfl⟩
                · rintro _ H141 f bs gs ⟨hf1, rfl, rfl, hs141, rfl⟩
                  have hF := hKr142
                  try dsimp only at hF
                  refine (JQ.norm (i := 1) hf1 ?_)
                  refine JQ.go ?_
                  refine JC.seq ?_
                  refine JC.seq ?_
                  refine JC.region (by rfl) ?_
                  intro hQ
                  refine JL.assign .none rfl ?_
                  refine JL.done hQ ?_
                  refine JQ.go ?_
                  obtain ⟨r493, hlr493, hKr493⟩ := bind_some hF
                  refine JC.join (fun (_ : Unit) H492 f bs gs => bs = [] ∧ gs = [] ∧ HSub H141 H492 ∧ Sum.inr () = r493) ?_ ?_
                  · skip
                    refine JC.block ?_
                    refine JC.loop hlr493 (fun (i_652 : Int) H653 f bs gs => f 1 = .pointer (some ⟨b1, 0, none⟩) ∧ f 5 = .int .i64 i_652 ∧ bs = [(b1, .cells [.int .i64 t.Days, .int .i64 t.Step, t_v2, .int .i64 t.Wrong, t_v4, .int .i64 t.Reach, .int .i64 t.Stock].toArray 25)] ∧ gs = [] ∧ HSub H141 H653) ⟨rfl, rfl, rfl, rfl, (HSub.refl _)⟩ ?_
                    rintro i_652 x655 H653 f bs gs ⟨hf1, hf5, rfl, rfl, hs653⟩ hF hr654
                    rw [F_ref11_Check_s2] at hF
                    refine (JC.norm (i := 1) hf1 (JC.norm (i := 5) hf5 ?_))
                    refine JC.seq ?_
                    refine JC.seq ?_
                    refine JC.region (by rfl) ?_
                    intro hQ
                    refine JL.move .none rfl ?_
                    refine JL.fieldAddr fo_25_4 rfl .none rfl ?_
                    refine JL.loadOwn 0 az_23 rfl rfl rfl .none rfl ?_
                    refine JL.lenSL (R := R_Fair) ul_23 (SL.mono R_Fair_mono (HSub.trans hs141 hs653) ht_4) .none rfl ?_
                    refine JL.bin rfl rfl rfl .none rfl ?_
                    refine JL.done hQ ?_
                    refine JQ.go ?_
                    rcases ite_some hF with ⟨hc656, hF⟩ | ⟨hc656, hF⟩
                    · refine JC.cond_t (b := decide (i_652 < (t.Fairs.length : Int))) rfl hc656 ?_
                      refine JC.skip ?_
                      refine JQ.go ?_
                      refine JC.seq ?_
                      refine JC.block ?_
                      refine JC.seq ?_
                      refine JC.region (by rfl) ?_
                      intro hQ
                      refine JL.fieldAddr fo_25_4 rfl .none rfl ?_
                      refine JL.loadOwn 0 az_23 rfl rfl rfl .none rfl ?_
                      refine JL.move .none rfl ?_
                      obtain ⟨y657, hy657, hF⟩ := bind_some hF
                      refine JL.indexSL (R := R_Fair) sl_23 (SL.mono R_Fair_mono (HSub.trans hs141 hs653) ht_4) rfl hy657 .none rfl ?_
                      rintro b658 o659 cs660 hc661 - ⟨y657_v1, rfl, hy657_1⟩
                      refine JL.loadH 0 az_41 rfl hc661 rfl .none rfl ?_
                      refine JL.alloc ze_41 .none rfl ?_
                      intro b662
                      refine JL.storeOwn 0 (cs := [.int .i64 y657.Price, y657_v1]) az_41 rfl rfl rfl (one_cons rfl (one_cons (SL.one hy657_1) one_nil)) rfl rfl .none ?_
                      refine JL.done hQ ?_
                      refine JQ.go ?_
                      refine JC.seq ?_
                      refine JC.seq ?_
                      refine JC.region (by rfl) ?_
                      intro hQ
                      refine JL.fieldAddr fo_41_0 rfl .none rfl ?_
                      refine JL.loadOwn 0 az_3 rfl rfl rfl .none rfl ?_
                      obtain ⟨y663, hy663, hF⟩ := bind_some hF
                      refine JL.callS (c_ref11_within n H653 y657.Price 0 999 y663 hy663) rfl en_65 .none rfl ?_
                      refine JL.not rfl .none rfl ?_
                      refine JL.move .none rfl ?_
                      refine JL.cut 5 (fun f => f 1 = .pointer (some ⟨b1, 0, none⟩) ∧ f 5 = .int .i64 i_652 ∧ f 6 = .pointer (some ⟨b662, 0, none⟩) ∧ f 107 = .bool ((!y663) || ((y657.Sells.length : Int) != 4))) ?_ ?_
                      · intro hJ664
                        rcases bcases (!y663) with hc665 | hc665
                        · skip
                          refine JL.skip (.bool rfl rfl rfl hc665) rfl ?_
                          refine JL.skip (.bool rfl rfl rfl hc665) rfl ?_
                          refine JL.skip (.bool rfl rfl rfl hc665) rfl ?_
                          refine JL.skip (.bool rfl rfl rfl hc665) rfl ?_
                          refine JL.pick_t (b := (!y663)) rfl hc665 .none rfl ?_
                          exact hJ664 _ ⟨rfl, rfl, rfl, or_t hc665 rfl⟩
                        · skip
                          refine JL.fieldAddr fo_41_1 rfl (.some rfl rfl rfl hc665) rfl ?_
                          refine JL.loadOwn 0 az_26 rfl rfl rfl (.some rfl rfl rfl hc665) rfl ?_
                          refine JL.lenSL (R := RInt) ul_26 hy657_1 (.some rfl rfl rfl hc665) rfl ?_
                          refine JL.bin rfl rfl rfl (.some rfl rfl rfl hc665) rfl ?_
                          refine JL.pick_f (b := (!y663)) rfl hc665 .none rfl ?_
                          exact hJ664 _ ⟨rfl, rfl, rfl, or_f hc665 rfl⟩
                      · rintro f ⟨hf1, hf5, hf6, hf107⟩
                        refine (JL.norm (i := 1) hf1 (JL.norm (i := 5) hf5 (JL.norm (i := 6) hf6 (JL.norm (i := 107) hf107 ?_))))
                        refine JL.done hQ ?_
                        refine JQ.go ?_
                        rcases ite_some hF with ⟨hc666, hF⟩ | ⟨hc666, hF⟩
                        · refine JC.cond_t (b := ((!y663) || ((y657.Sells.length : Int) != 4))) rfl hc666 ?_
                          refine JC.seq ?_
                          refine JC.region (by rfl) ?_
                          intro hQ
                          refine JL.assign .none rfl ?_
                          refine JL.done hQ ?_
                          refine JQ.go ?_
                          refine JC.ret ?_
                          refine JQ.ret_then ?_
                          refine JQ.ret_block ?_
                          refine JQ.ret_then ?_
                          refine JQ.ret_then ?_
                          refine JQ.ret_block ?_
                          refine JQ.ret_join ?_
                          refine JQ.ret_then ?_
                          obtain rfl := Option.some.inj hF
                          have ehr654 := hr654 _ rfl
                          subst ehr654
                          have hF := hKr493
                          try dsimp only at hF
                          obtain rfl := Option.some.inj hF
                          exact JQ.outS rfl (.tmp .nil) rfl
                        · refine JC.cond_f (b := ((!y663) || ((y657.Sells.length : Int) != 4))) rfl hc666 ?_
                          refine JC.skip ?_
                          refine JQ.go ?_
                          refine JC.seq ?_
                          refine JC.region (by rfl) ?_
                          intro hQ
                          refine JL.assign .none rfl ?_
                          refine JL.done hQ ?_
                          refine JQ.go ?_
                          obtain ⟨r700, hlr700, hKr700⟩ := bind_some hF
                          refine JC.join (fun (_ : Unit) H699 f bs gs => f 1 = .pointer (some ⟨b1, 0, none⟩) ∧ f 5 = .int .i64 i_652 ∧ bs = [(b1, .cells [.int .i64 t.Days, .int .i64 t.Step, t_v2, .int .i64 t.Wrong, t_v4, .int .i64 t.Reach, .int .i64 t.Stock].toArray 25)] ∧ gs = [] ∧ HSub H653 H699 ∧ Sum.inr () = r700) ?_ ?_
                          · skip
                            refine JC.block ?_
                            refine JC.loop hlr700 (fun (k_721 : Int) H722 f bs gs => f 1 = .pointer (some ⟨b1, 0, none⟩) ∧ f 5 = .int .i64 i_652 ∧ f 6 = .pointer (some ⟨b662, 0, none⟩) ∧ f 7 = .int .i64 k_721 ∧ bs = [(b662, .cells [.int .i64 y657.Price, y657_v1].toArray 41), (b1, .cells [.int .i64 t.Days, .int .i64 t.Step, t_v2, .int .i64 t.Wrong, t_v4, .int .i64 t.Reach, .int .i64 t.Stock].toArray 25)] ∧ gs = [] ∧ HSub H653 H722) ⟨rfl, rfl, rfl, rfl, rfl, rfl, (HSub.refl _)⟩ ?_
                            rintro k_721 x724 H722 f bs gs ⟨hf1, hf5, hf6, hf7, rfl, rfl, hs722⟩ hF hr723
                            rw [F_ref11_Check_s3] at hF
                            refine (JC.norm (i := 1) hf1 (JC.norm (i := 5) hf5 (JC.norm (i := 6) hf6 (JC.norm (i := 7) hf7 ?_))))
                            refine JC.seq ?_
                            refine JC.seq ?_
                            refine JC.region (by rfl) ?_
                            intro hQ
                            refine JL.move .none rfl ?_
                            refine JL.fieldAddr fo_41_1 rfl .none rfl ?_
                            refine JL.loadOwn 0 az_26 rfl rfl rfl .none rfl ?_
                            refine JL.lenSL (R := RInt) ul_26 (SL.mono RInt.mono hs722 hy657_1) .none rfl ?_
                            refine JL.bin rfl rfl rfl .none rfl ?_
                            refine JL.done hQ ?_
                            refine JQ.go ?_
                            rcases ite_some hF with ⟨hc725, hF⟩ | ⟨hc725, hF⟩
                            · refine JC.cond_t (b := decide (k_721 < (y657.Sells.length : Int))) rfl hc725 ?_
                              refine JC.skip ?_
                              refine JQ.go ?_
                              refine JC.seq ?_
                              refine JC.block ?_
                              refine JC.seq ?_
                              refine JC.region (by rfl) ?_
                              intro hQ
                              refine JL.fieldAddr fo_41_1 rfl .none rfl ?_
                              refine JL.loadOwn 0 az_26 rfl rfl rfl .none rfl ?_
                              refine JL.move .none rfl ?_
                              obtain ⟨y726, hy726, hF⟩ := bind_some hF
                              refine JL.indexSL (R := RInt) sl_26 (SL.mono RInt.mono hs722 hy657_1) rfl hy726 .none rfl ?_
                              rintro b727 o728 cs729 hc730 - rfl
                              refine JL.loadH 0 az_3 rfl hc730 rfl .none rfl ?_
                              obtain ⟨y731, hy731, hF⟩ := bind_some hF
                              refine JL.callS (c_ref11_within n H722 y726 0 99 y731 hy731) rfl en_65 .none rfl ?_
                              refine JL.not rfl .none rfl ?_
                              refine JL.done hQ ?_
                              refine JQ.go ?_
                              refine JC.fresh (fun f => f 1 = .pointer (some ⟨b1, 0, none⟩) ∧ f 5 = .int .i64 i_652 ∧ f 6 = .pointer (some ⟨b662, 0, none⟩) ∧ f 7 = .int .i64 k_721 ∧ f 121 = .bool (!y731)) ⟨rfl, rfl, rfl, rfl, rfl⟩ ?_
                              rintro f ⟨hf1, hf5, hf6, hf7, hf121⟩
                              refine (JC.norm (i := 1) hf1 (JC.norm (i := 5) hf5 (JC.norm (i := 6) hf6 (JC.norm (i := 7) hf7 (JC.norm (i := 121) hf121 ?_)))))
                              rcases ite_some hF with ⟨hc732, hF⟩ | ⟨hc732, hF⟩
                              · refine JC.cond_t (b := (!y731)) rfl hc732 ?_
                                refine JC.seq ?_
                                refine JC.region (by rfl) ?_
                                intro hQ
                                refine JL.assign .none rfl ?_
                                refine JL.done hQ ?_
                                refine JQ.go ?_
                                refine JC.ret ?_
                                refine JQ.ret_block ?_
                                refine JQ.ret_then ?_
                                refine JQ.ret_then ?_
                                refine JQ.ret_block ?_
                                refine JQ.ret_join ?_
                                refine JQ.ret_block ?_
                                refine JQ.ret_then ?_
                                refine JQ.ret_then ?_
                                refine JQ.ret_block ?_
                                refine JQ.ret_join ?_
                                refine JQ.ret_then ?_
                                obtain rfl := Option.some.inj hF
                                have ehr723 := hr723 _ rfl
                                subst ehr723
                                have hF := hKr700
                                try dsimp only at hF
                                obtain rfl := Option.some.inj hF
                                have ehr654 := hr654 _ rfl
                                subst ehr654
                                have hF := hKr493
                                try dsimp only at hF
                                obtain rfl := Option.some.inj hF
                                exact JQ.outS rfl (.tmp .nil) rfl
                              · refine JC.cond_f (b := (!y731)) rfl hc732 ?_
                                refine JC.skip ?_
                                refine JQ.normal_block ?_
                                refine JQ.go ?_
                                refine JC.region (by rfl) ?_
                                intro hQ
                                refine JL.move .none rfl ?_
                                refine JL.bin rfl rfl rfl .none rfl ?_
                                refine JL.assign .none rfl ?_
                                refine JL.done hQ ?_
                                obtain rfl := Option.some.inj hF
                                exact JQ.next rfl ⟨rfl, rfl, rfl, rfl, rfl, rfl, hs722⟩
                            · refine JC.cond_f (b := decide (k_721 < (y657.Sells.length : Int))) rfl hc725 ?_
                              refine JC.exit ?_
                              refine JQ.exit_then ?_
                              refine JQ.exit_then ?_
                              refine JQ.exit_block ?_
                              obtain rfl := Option.some.inj hF
                              have ehr723 := hr723 _ rfl
                              subst ehr723
                              refine JQ.mask [false, true] [] ?_
                              exact JQ.join () ⟨rfl, rfl, rfl, rfl, hs722, rfl⟩
                          · rintro _ H699 f bs gs ⟨hf1, hf5, rfl, rfl, hs699, rfl⟩
                            have hF := hKr700
                            try dsimp only at hF
                            refine (JQ.norm (i := 1) hf1 (JQ.norm (i := 5) hf5 ?_))
                            refine JQ.normal_block ?_
                            refine JQ.go ?_
                            refine JC.region (by rfl) ?_
                            intro hQ
                            refine JL.move .none rfl ?_
                            refine JL.bin rfl rfl rfl .none rfl ?_
                            refine JL.assign .none rfl ?_
                            refine JL.done hQ ?_
                            obtain rfl := Option.some.inj hF
                            exact JQ.next rfl ⟨rfl, rfl, rfl, rfl, (HSub.trans hs653 hs699)⟩
                    · refine JC.cond_f (b := decide (i_652 < (t.Fairs.length : Int))) rfl hc656 ?_
                      refine JC.exit ?_
                      refine JQ.exit_then ?_
                      refine JQ.exit_then ?_
                      refine JQ.exit_block ?_
                      obtain rfl := Option.some.inj hF
                      have ehr654 := hr654 _ rfl
                      subst ehr654
                      refine JQ.mask [false] [] ?_
                      exact JQ.join () ⟨rfl, rfl, hs653, rfl⟩
                  · rintro _ H492 f bs gs ⟨rfl, rfl, hs492, rfl⟩
                    have hF := hKr493
                    try dsimp only at hF
                    refine JQ.go ?_
                    refine JC.seq ?_
                    refine JC.region (by rfl) ?_
                    intro hQ
                    refine JL.assign .none rfl ?_
                    refine JL.done hQ ?_
                    refine JQ.go ?_
                    refine JC.ret ?_
                    obtain rfl := Option.some.inj hF
                    exact JQ.outS rfl (.tmp .nil) rfl

-- 12 ferrule/ferrulelaw11.Far
def F_law11_Far_s1 (n : Nat) (t : Tour) : Int → Option (Int ⊕ (Bool ⊕ Unit))
  | i_54 => if decide (i_54 < (t.Fairs.length : Int)) = true then ((geti t.Fairs i_54).bind fun y59 => if decide (20 < (y59.Sells.length : Int)) = true then (some (Sum.inr (Sum.inl true))) else (some (Sum.inl (w64 (i_54 + 1))))) else (some (Sum.inr (Sum.inr ())))
def F_law11_Far (n : Nat) (t : Tour) : Option Bool :=
  if ((decide (40 < (t.Rains.length : Int))) || (decide (20 < (t.Fairs.length : Int)))) = true then (some true) else ((loopO n (F_law11_Far_s1 n t) 0).bind fun r35 => match r35 with | .inl o => some o | .inr _ => (F_ref11_Check n t).bind fun y65 => some ((y65 == 0) && ((decide (4 < t.Days)) || (decide (3 < (t.Fairs.length : Int))))))
set_option maxRecDepth 100000 in
set_option maxHeartbeats 40000000 in
theorem c_law11_Far (n : Nat) (H : Hp) (t : Tour) (t_v2 : Value) (ht_2 : SL H 3 R_Rain t_v2 t.Rains) (t_v4 : Value) (ht_4 : SL H 2 R_Fair t_v4 t.Fairs) (y : Bool) (hF : F_law11_Far n t = some y) : SC Try.prog 12 [.agg [.int .i64 t.Days, .int .i64 t.Step, t_v2, .int .i64 t.Wrong, t_v4, .int .i64 t.Reach, .int .i64 t.Stock].toArray] (.bool y) H := by
  rw [F_law11_Far] at hF
  refine SC.of (N := 43) Try.func12 rfl rfl rfl fun w => ?_
  refine JC.seq ?_
  refine JC.region (by rfl) ?_
  intro hQ
  refine JL.box (cs := [.int .i64 t.Days, .int .i64 t.Step, t_v2, .int .i64 t.Wrong, t_v4, .int .i64 t.Reach, .int .i64 t.Stock]) rfl .none rfl ?_
  intro b1
  refine JL.assign .none rfl ?_
  refine JL.done hQ ?_
  refine JQ.go ?_
  refine JC.seq ?_
  refine JC.seq ?_
  refine JC.region (by rfl) ?_
  intro hQ
  refine JL.fieldAddr fo_25_2 rfl .none rfl ?_
  refine JL.loadOwn 0 az_22 rfl rfl rfl .none rfl ?_
  refine JL.lenSL (R := R_Rain) ul_22 ht_2 .none rfl ?_
  refine JL.bin rfl rfl rfl .none rfl ?_
  refine JL.move .none rfl ?_
  refine JL.cut 5 (fun f => f 1 = .pointer (some ⟨b1, 0, none⟩) ∧ f 13 = .bool ((decide (40 < (t.Rains.length : Int))) || (decide (20 < (t.Fairs.length : Int))))) ?_ ?_
  · intro hJ2
    rcases bcases (decide (40 < (t.Rains.length : Int))) with hc3 | hc3
    · skip
      refine JL.skip (.bool rfl rfl rfl hc3) rfl ?_
      refine JL.skip (.bool rfl rfl rfl hc3) rfl ?_
      refine JL.skip (.bool rfl rfl rfl hc3) rfl ?_
      refine JL.skip (.bool rfl rfl rfl hc3) rfl ?_
      refine JL.pick_t (b := decide (40 < (t.Rains.length : Int))) rfl hc3 .none rfl ?_
      exact hJ2 _ ⟨rfl, or_t hc3 rfl⟩
    · skip
      refine JL.fieldAddr fo_25_4 rfl (.some rfl rfl rfl hc3) rfl ?_
      refine JL.loadOwn 0 az_23 rfl rfl rfl (.some rfl rfl rfl hc3) rfl ?_
      refine JL.lenSL (R := R_Fair) ul_23 ht_4 (.some rfl rfl rfl hc3) rfl ?_
      refine JL.bin rfl rfl rfl (.some rfl rfl rfl hc3) rfl ?_
      refine JL.pick_f (b := decide (40 < (t.Rains.length : Int))) rfl hc3 .none rfl ?_
      exact hJ2 _ ⟨rfl, or_f hc3 rfl⟩
  · rintro f ⟨hf1, hf13⟩
    refine (JL.norm (i := 1) hf1 (JL.norm (i := 13) hf13 ?_))
    refine JL.done hQ ?_
    refine JQ.go ?_
    rcases ite_some hF with ⟨hc4, hF⟩ | ⟨hc4, hF⟩
    · refine JC.cond_t (b := ((decide (40 < (t.Rains.length : Int))) || (decide (20 < (t.Fairs.length : Int))))) rfl hc4 ?_
      refine JC.seq ?_
      refine JC.region (by rfl) ?_
      intro hQ
      refine JL.assign .none rfl ?_
      refine JL.done hQ ?_
      refine JQ.go ?_
      refine JC.ret ?_
      refine JQ.ret_then ?_
      obtain rfl := Option.some.inj hF
      exact JQ.outS rfl (.tmp .nil) rfl
    · refine JC.cond_f (b := ((decide (40 < (t.Rains.length : Int))) || (decide (20 < (t.Fairs.length : Int))))) rfl hc4 ?_
      refine JC.skip ?_
      refine JQ.go ?_
      refine JC.seq ?_
      refine JC.seq ?_
      refine JC.region (by rfl) ?_
      intro hQ
      refine JL.assign .none rfl ?_
      refine JL.done hQ ?_
      refine JQ.go ?_
      obtain ⟨r35, hlr35, hKr35⟩ := bind_some hF
      refine JC.join (fun (_ : Unit) H34 f bs gs => f 1 = .pointer (some ⟨b1, 0, none⟩) ∧ bs = [(b1, .cells [.int .i64 t.Days, .int .i64 t.Step, t_v2, .int .i64 t.Wrong, t_v4, .int .i64 t.Reach, .int .i64 t.Stock].toArray 25)] ∧ gs = [] ∧ HSub H H34 ∧ Sum.inr () = r35) ?_ ?_
      · skip
        refine JC.block ?_
        refine JC.loop hlr35 (fun (i_54 : Int) H55 f bs gs => f 1 = .pointer (some ⟨b1, 0, none⟩) ∧ f 3 = .int .i64 i_54 ∧ bs = [(b1, .cells [.int .i64 t.Days, .int .i64 t.Step, t_v2, .int .i64 t.Wrong, t_v4, .int .i64 t.Reach, .int .i64 t.Stock].toArray 25)] ∧ gs = [] ∧ HSub H H55) ⟨rfl, rfl, rfl, rfl, (HSub.refl _)⟩ ?_
        rintro i_54 x57 H55 f bs gs ⟨hf1, hf3, rfl, rfl, hs55⟩ hF hr56
        rw [F_law11_Far_s1] at hF
        refine (JC.norm (i := 1) hf1 (JC.norm (i := 3) hf3 ?_))
        refine JC.seq ?_
        refine JC.seq ?_
        refine JC.region (by rfl) ?_
        intro hQ
        refine JL.move .none rfl ?_
        refine JL.fieldAddr fo_25_4 rfl .none rfl ?_
        refine JL.loadOwn 0 az_23 rfl rfl rfl .none rfl ?_
        refine JL.lenSL (R := R_Fair) ul_23 (SL.mono R_Fair_mono hs55 ht_4) .none rfl ?_
        refine JL.bin rfl rfl rfl .none rfl ?_
        refine JL.done hQ ?_
        refine JQ.go ?_
        rcases ite_some hF with ⟨hc58, hF⟩ | ⟨hc58, hF⟩
        · refine JC.cond_t (b := decide (i_54 < (t.Fairs.length : Int))) rfl hc58 ?_
          refine JC.skip ?_
          refine JQ.go ?_
          refine JC.seq ?_
          refine JC.block ?_
          refine JC.seq ?_
          refine JC.region (by rfl) ?_
          intro hQ
          refine JL.fieldAddr fo_25_4 rfl .none rfl ?_
          refine JL.loadOwn 0 az_23 rfl rfl rfl .none rfl ?_
          refine JL.move .none rfl ?_
          obtain ⟨y59, hy59, hF⟩ := bind_some hF
          refine JL.indexSL (R := R_Fair) sl_23 (SL.mono R_Fair_mono hs55 ht_4) rfl hy59 .none rfl ?_
          rintro b60 o61 cs62 hc63 - ⟨y59_v1, rfl, hy59_1⟩
          refine JL.fieldAddr fo_41_1 rfl .none rfl ?_
          refine JL.loadH 1 az_26 rfl hc63 rfl .none rfl ?_
          refine JL.lenSL (R := RInt) ul_26 hy59_1 .none rfl ?_
          refine JL.bin rfl rfl rfl .none rfl ?_
          refine JL.done hQ ?_
          refine JQ.go ?_
          refine JC.fresh (fun f => f 1 = .pointer (some ⟨b1, 0, none⟩) ∧ f 3 = .int .i64 i_54 ∧ f 28 = .bool (decide (20 < (y59.Sells.length : Int)))) ⟨rfl, rfl, rfl⟩ ?_
          rintro f ⟨hf1, hf3, hf28⟩
          refine (JC.norm (i := 1) hf1 (JC.norm (i := 3) hf3 (JC.norm (i := 28) hf28 ?_)))
          rcases ite_some hF with ⟨hc64, hF⟩ | ⟨hc64, hF⟩
          · refine JC.cond_t (b := decide (20 < (y59.Sells.length : Int))) rfl hc64 ?_
            refine JC.seq ?_
            refine JC.region (by rfl) ?_
            intro hQ
            refine JL.assign .none rfl ?_
            refine JL.done hQ ?_
            refine JQ.go ?_
            refine JC.ret ?_
            refine JQ.ret_block ?_
            refine JQ.ret_then ?_
            refine JQ.ret_then ?_
            refine JQ.ret_block ?_
            refine JQ.ret_join ?_
            refine JQ.ret_then ?_
            obtain rfl := Option.some.inj hF
            have ehr56 := hr56 _ rfl
            subst ehr56
            have hF := hKr35
            try dsimp only at hF
            obtain rfl := Option.some.inj hF
            exact JQ.outS rfl (.tmp .nil) rfl
          · refine JC.cond_f (b := decide (20 < (y59.Sells.length : Int))) rfl hc64 ?_
            refine JC.skip ?_
            refine JQ.normal_block ?_
            refine JQ.go ?_
            refine JC.region (by rfl) ?_
            intro hQ
            refine JL.move .none rfl ?_
            refine JL.bin rfl rfl rfl .none rfl ?_
            refine JL.assign .none rfl ?_
            refine JL.done hQ ?_
            obtain rfl := Option.some.inj hF
            exact JQ.next rfl ⟨rfl, rfl, rfl, rfl, hs55⟩
        · refine JC.cond_f (b := decide (i_54 < (t.Fairs.length : Int))) rfl hc58 ?_
          refine JC.exit ?_
          refine JQ.exit_then ?_
          refine JQ.exit_then ?_
          refine JQ.exit_block ?_
          obtain rfl := Option.some.inj hF
          have ehr56 := hr56 _ rfl
          subst ehr56
          exact JQ.join () ⟨rfl, rfl, rfl, hs55, rfl⟩
      · rintro _ H34 f bs gs ⟨hf1, rfl, rfl, hs34, rfl⟩
        have hF := hKr35
        try dsimp only at hF
        refine (JQ.norm (i := 1) hf1 ?_)
        refine JQ.go ?_
        refine JC.seq ?_
        refine JC.region (by rfl) ?_
        intro hQ
        refine JL.loadOwn 0 az_25 rfl rfl rfl .none rfl ?_
        obtain ⟨y65, hy65, hF⟩ := bind_some hF
        refine JL.callS (c_ref11_Check n H34 t t_v2 (SL.mono R_Rain_mono hs34 ht_2) t_v4 (SL.mono R_Fair_mono hs34 ht_4) y65 hy65) rfl en_38 .none rfl ?_
        refine JL.bin rfl rfl rfl .none rfl ?_
        refine JL.move .none rfl ?_
        refine JL.cut 10 (fun f => f 42 = .bool ((y65 == 0) && ((decide (4 < t.Days)) || (decide (3 < (t.Fairs.length : Int)))))) ?_ ?_
        · intro hJ68
          rcases bcases (y65 == 0) with hc69 | hc69
          · skip
            refine JL.fieldAddr fo_25_0 rfl (.some rfl rfl rfl hc69) rfl ?_
            refine JL.loadOwn 0 az_3 rfl rfl rfl (.some rfl rfl rfl hc69) rfl ?_
            refine JL.bin rfl rfl rfl (.some rfl rfl rfl hc69) rfl ?_
            refine JL.move (.some rfl rfl rfl hc69) rfl ?_
            refine JL.cut 5 (fun f => f 32 = .bool (y65 == 0) ∧ f 41 = .bool ((decide (4 < t.Days)) || (decide (3 < (t.Fairs.length : Int))))) ?_ ?_
            · intro hJ70
              rcases bcases (decide (4 < t.Days)) with hc71 | hc71
              · skip
                refine JL.skip (.bool rfl rfl rfl hc71) rfl ?_
                refine JL.skip (.bool rfl rfl rfl hc71) rfl ?_
                refine JL.skip (.bool rfl rfl rfl hc71) rfl ?_
                refine JL.skip (.bool rfl rfl rfl hc71) rfl ?_
                refine JL.pick_t (b := decide (4 < t.Days)) rfl hc71 (.some rfl rfl rfl hc69) rfl ?_
                exact hJ70 _ ⟨rfl, or_t hc71 rfl⟩
              · skip
                refine JL.fieldAddr fo_25_4 rfl (.some rfl rfl rfl hc71) rfl ?_
                refine JL.loadOwn 0 az_23 rfl rfl rfl (.some rfl rfl rfl hc71) rfl ?_
                refine JL.lenSL (R := R_Fair) ul_23 (SL.mono R_Fair_mono hs34 ht_4) (.some rfl rfl rfl hc71) rfl ?_
                refine JL.bin rfl rfl rfl (.some rfl rfl rfl hc71) rfl ?_
                refine JL.pick_f (b := decide (4 < t.Days)) rfl hc71 (.some rfl rfl rfl hc69) rfl ?_
                exact hJ70 _ ⟨rfl, or_f hc71 rfl⟩
            · rintro f ⟨hf32, hf41⟩
              refine (JL.norm (i := 32) hf32 (JL.norm (i := 41) hf41 ?_))
              refine JL.pick_t (b := (y65 == 0)) rfl hc69 .none rfl ?_
              exact hJ68 _ (and_t hc69 rfl)
          · skip
            refine JL.skip (.bool rfl rfl rfl hc69) rfl ?_
            refine JL.skip (.bool rfl rfl rfl hc69) rfl ?_
            refine JL.skip (.bool rfl rfl rfl hc69) rfl ?_
            refine JL.skip (.bool rfl rfl rfl hc69) rfl ?_
            refine JL.skip (.no rfl rfl rfl) rfl ?_
            refine JL.skip (.no rfl rfl rfl) rfl ?_
            refine JL.skip (.no rfl rfl rfl) rfl ?_
            refine JL.skip (.no rfl rfl rfl) rfl ?_
            refine JL.skip (.bool rfl rfl rfl hc69) rfl ?_
            refine JL.pick_f (b := (y65 == 0)) rfl hc69 .none rfl ?_
            exact hJ68 _ (and_f hc69 rfl)
        · rintro f hf42
          refine (JL.norm (i := 42) hf42 ?_)
          refine JL.assign .none rfl ?_
          refine JL.done hQ ?_
          refine JQ.go ?_
          refine JC.ret ?_
          obtain rfl := Option.some.inj hF
          exact JQ.outS rfl (.tmp .nil) rfl

end Go.Proofs.Ytooankffknoomaa
