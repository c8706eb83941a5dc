/-
  Printed by a program: functions of the translation as plain functions, and their contracts.
-/
import Derived.Test.YtooankffknoomaaGenK2
namespace Go.Proofs.Ytooankffknoomaa
open Go Go.RowKit Go.Dec
set_option linter.unusedVariables false
-- 46 ferrule/rains.ends
def F_rains_ends (n : Nat) (t : Tour) (route : List Int) (of : rains_sale → Option Int) : Option (Span × Int) :=
  (F_rains_isRoute n t route).bind fun y5 => (F_rains_open n t y5).bind fun y6 => if (y6.2 != 0) = true then (some ((Span.mk 0 0), y6.2)) else (y6.1.bind fun w014 => (F_rains_weather_bounds n w014 route of).bind fun y20 => some (y20, 0))
set_option maxRecDepth 100000 in
set_option maxHeartbeats 40000000 in
theorem c_rains_ends (n : Nat) (H : Hp) (t : Tour) (t_v2 : Value) (ht_2 : SL H 3 R_Rain t_v2 t.Rains) (t_v4 : Value) (ht_4 : SL H 2 R_Fair t_v4 t.Fairs) (route : List Int) (route_v0 : Value) (hroute_0 : SL H 1 RInt route_v0 route) (of : rains_sale → Option Int) (of_k : Nat) (of_c : List Value) (of_e : Ent Try.prog of_k) (of_h : ∀ H', HSub H H' → ∀ (a0_ : rains_sale) (y : Int), of a0_ = some y → SC Try.prog of_k ([.agg [.int .i64 a0_.takes, .int .i64 a0_.left].toArray] ++ of_c) (.int .i64 y) H') (y : Span × Int) (hF : F_rains_ends n t route of = some y) : SC Try.prog 46 [.agg [.int .i64 t.Days, .int .i64 t.Step, t_v2, .int .i64 t.Wrong, t_v4, .int .i64 t.Reach, .int .i64 t.Stock].toArray, route_v0, .func (.func of_k) #[] of_c.toArray] (.tuple [.agg [.int .i64 y.1.Low, .int .i64 y.1.High].toArray, .int .i64 y.2].toArray) H := by
  rw [F_rains_ends] at hF
  refine SC.of (N := 26) Try.func46 rfl rfl rfl fun w => ?_
  refine JC.seq ?_
  refine JC.region (by rfl) ?_
  intro hQ
  refine JL.box (cs := [.int .i64 t.Days, .int .i64 t.Step, t_v2, .int .i64 t.Wrong, t_v4, .int .i64 t.Reach, .int .i64 t.Stock]) rfl .none rfl ?_
  intro b1
  refine JL.alloc ze_31 .none rfl ?_
  intro b2
  refine JL.assign .none rfl ?_
  refine JL.done hQ ?_
  refine JQ.go ?_
  refine JC.seq ?_
  obtain ⟨y5, hy5, hF⟩ := bind_some hF
  obtain ⟨y6, hy6, hF⟩ := bind_some hF
  refine JC.mixed 10 10 #[false, false, false, false, false, false, false, false, false, false] [(b2, .cells [.int .i64 0, .int .i64 0].toArray 31), (b1, .cells [.int .i64 t.Days, .int .i64 t.Step, t_v2, .int .i64 t.Wrong, t_v4, .int .i64 t.Reach, .int .i64 t.Stock].toArray 25)] (by rfl) mo_ (by kernel_rfl) (by kernel_rfl) ?_
  intro hQ hE
  refine JA.take 0 (listed' := #[true, false, false, false, false, false, false, false, false, false]) hQ rfl (by kernel_rfl) (by kernel_rfl) (by kernel_rfl) (by kernel_rfl) (by kernel_rfl) hE (HSub.refl _) (.cons_cons _ (.cons_cons _ (List.nil_sublist _))) ?_
  refine JL.loadOwn 1 az_25 rfl rfl rfl .none rfl ?_
  refine JA.cont ?_
  refine JA.take 1 (listed' := #[true, true, false, false, false, false, false, false, false, false]) hQ rfl (by kernel_rfl) (by kernel_rfl) (by kernel_rfl) (by kernel_rfl) (by kernel_rfl) hE (HSub.refl _) (.cons_cons _ (.cons_cons _ (List.nil_sublist _))) ?_
  refine JL.loadOwn 1 az_25 rfl rfl rfl .none rfl ?_
  refine JA.cont ?_
  refine JA.take 2 (listed' := #[true, true, true, false, false, false, false, false, false, false]) hQ rfl (by kernel_rfl) (by kernel_rfl) (by kernel_rfl) (by kernel_rfl) (by kernel_rfl) hE (HSub.refl _) (.cons_cons _ (.cons_cons _ (List.nil_sublist _))) ?_
  refine JL.move .none rfl ?_
  refine JA.cont ?_
  refine JA.many [3] (by kernel_rfl) (by simp) (all_one ⟨_, #[true, true, true, true, false, false, false, false, false, false], rfl, (by kernel_rfl), ?_⟩)
  refine JL.callS (c_rains_isRoute n H t t_v2 ht_2 t_v4 ht_4 route route_v0 hroute_0 y5 hy5) rfl en_71 .none rfl ?_
  refine JA.after hE (HSub.refl _) (.cons_cons _ (.cons_cons _ (List.nil_sublist _))) ?_
  refine JA.many [4] (by kernel_rfl) (by simp) (all_one ⟨_, #[true, true, true, true, true, false, false, false, false, false], rfl, (by kernel_rfl), ?_⟩)
  refine JL.callH (c_rains_open n H t t_v2 ht_2 t_v4 ht_4 y5 y6 hy6) rfl en_59 .none rfl ?_
  rintro H11 vv12 hs11 ⟨y6a_v0, rfl, hy6a_0⟩
  refine JA.after hE hs11 (.cons_cons _ (.cons_cons _ (List.nil_sublist _))) ?_
  refine JA.take 5 (listed' := #[true, true, true, true, true, true, false, false, false, false]) hQ rfl (by kernel_rfl) (by kernel_rfl) (by kernel_rfl) (by kernel_rfl) (by kernel_rfl) hE hs11 (.cons_cons _ (.cons_cons _ (List.nil_sublist _))) ?_
  refine JL.move .none rfl ?_
  refine JA.cont ?_
  refine JA.take 6 (listed' := #[true, true, true, true, true, true, true, false, false, false]) hQ rfl (by kernel_rfl) (by kernel_rfl) (by kernel_rfl) (by kernel_rfl) (by kernel_rfl) hE hs11 (.cons_cons _ (.cons_cons _ (List.nil_sublist _))) ?_
  refine JL.extract rfl rfl .none rfl ?_
  refine JA.cont ?_
  refine JA.take 7 (listed' := #[true, true, true, true, true, true, true, true, false, false]) hQ rfl (by kernel_rfl) (by kernel_rfl) (by kernel_rfl) (by kernel_rfl) (by kernel_rfl) hE hs11 (.cons_cons _ (.cons_cons _ (List.nil_sublist _))) ?_
  refine JL.extract rfl rfl .none rfl ?_
  refine JA.cont ?_
  refine JA.take 8 (listed' := #[true, true, true, true, true, true, true, true, true, false]) hQ rfl (by kernel_rfl) (by kernel_rfl) (by kernel_rfl) (by kernel_rfl) (by kernel_rfl) hE hs11 (.cons_cons _ (.cons_cons _ (List.nil_sublist _))) ?_
  refine JL.assign .none rfl ?_
  refine JA.cont ?_
  refine JA.take 9 (listed' := #[true, true, true, true, true, true, true, true, true, true]) hQ rfl (by kernel_rfl) (by kernel_rfl) (by kernel_rfl) (by kernel_rfl) (by kernel_rfl) hE hs11 (.cons_cons _ (.cons_cons _ (List.nil_sublist _))) ?_
  refine JL.assign .none rfl ?_
  refine JA.cont ?_
  refine JA.done hQ (by kernel_rfl) ?_
  refine JQ.go ?_
  refine JC.fresh (fun f => f 1 = route_v0 ∧ f 2 = .func (.func of_k) #[] of_c.toArray ∧ f 6 = .pointer (some ⟨b2, 0, none⟩) ∧ f 7 = .int .i64 0 ∧ f 8 = y6a_v0 ∧ f 9 = .int .i64 y6.2) ⟨rfl, rfl, rfl, rfl, rfl, rfl⟩ ?_
  rintro f ⟨hf1, hf2, hf6, hf7, hf8, hf9⟩
  refine (JC.norm (i := 1) hf1 (JC.norm (i := 2) hf2 (JC.norm (i := 6) hf6 (JC.norm (i := 7) hf7 (JC.norm (i := 8) hf8 (JC.norm (i := 9) hf9 ?_))))))
  refine JC.seq ?_
  refine JC.seq ?_
  refine JC.region (by rfl) ?_
  intro hQ
  refine JL.move .none rfl ?_
  refine JL.bin rfl rfl rfl .none rfl ?_
  refine JL.done hQ ?_
  refine JQ.go ?_
  rcases ite_some hF with ⟨hc13, hF⟩ | ⟨hc13, hF⟩
  · refine JC.cond_t (b := (y6.2 != 0)) rfl hc13 ?_
    refine JC.seq ?_
    refine JC.region (by rfl) ?_
    intro hQ
    refine JL.build (l := [.int .i64 0, .int .i64 0]) (by kernel_rfl) .none rfl ?_
    refine JL.move .none rfl ?_
    refine JL.storeOwn 0 (cs := [.int .i64 0, .int .i64 0]) az_31 rfl rfl rfl (one_cons rfl (one_cons rfl one_nil)) rfl rfl .none ?_
    refine JL.assign .none rfl ?_
    refine JL.done hQ ?_
    refine JQ.go ?_
    refine JC.ret ?_
    refine JQ.ret_then ?_
    obtain rfl := Option.some.inj hF
    exact JQ.outS rfl (.cell 0 az_31 rfl rfl rfl (.tmp .nil)) rfl
  · refine JC.cond_f (b := (y6.2 != 0)) rfl hc13 ?_
    refine JC.skip ?_
    refine JQ.go ?_
    refine JC.seq ?_
    refine JC.region (by rfl) ?_
    intro hQ
    refine JL.move .none rfl ?_
    refine JL.move .none rfl ?_
    refine JL.move .none rfl ?_
    obtain ⟨w014, hw014, hF⟩ := bind_some hF
    obtain ⟨b15, o16, cs17, hv18, hc19, ⟨w014_v2, w014_v4, w014_v7, rfl, hw014_2, hw014_4, hw014_7⟩⟩ := (show PT H11 R_rains_weather y6a_v0 (some w014) by rw [← hw014]; exact hy6a_0)
    subst hv18
    obtain ⟨y20, hy20, hF⟩ := bind_some hF
    refine JL.callS (c_rains_weather_bounds n H11 w014 w014_v2 hw014_2 w014_v4 hw014_4 w014_v7 hw014_7 b15 o16 hc19 route route_v0 (SL.mono RInt.mono hs11 hroute_0) of of_k of_c of_e (fun H' hs' => of_h H' (HSub.trans hs11 hs')) y20 hy20) rfl en_72 .none rfl ?_
    refine JL.storeOwn 0 (cs := [.int .i64 y20.Low, .int .i64 y20.High]) az_31 rfl rfl rfl (one_cons rfl (one_cons rfl one_nil)) rfl rfl .none ?_
    refine JL.assign .none rfl ?_
    refine JL.done hQ ?_
    refine JQ.go ?_
    refine JC.ret ?_
    obtain rfl := Option.some.inj hF
    exact JQ.outS rfl (.cell 0 az_31 rfl rfl rfl (.tmp .nil)) rfl

-- 47 (ferrule/rains.sale).takings
def F_rains_sale_takings (n : Nat) (x_ : rains_sale) : Option Int :=
  some x_.takes
set_option maxRecDepth 100000 in
set_option maxHeartbeats 40000000 in
theorem c_rains_sale_takings (n : Nat) (H : Hp) (x_ : rains_sale) (y : Int) (hF : F_rains_sale_takings n x_ = some y) : SC Try.prog 47 [.agg [.int .i64 x_.takes, .int .i64 x_.left].toArray] (.int .i64 y) H := by
  rw [F_rains_sale_takings] at hF
  refine SC.of (N := 5) Try.func47 rfl rfl rfl fun w => ?_
  refine JC.seq ?_
  refine JC.region (by rfl) ?_
  intro hQ
  refine JL.box (cs := [.int .i64 x_.takes, .int .i64 x_.left]) rfl .none rfl ?_
  intro b1
  refine JL.assign .none rfl ?_
  refine JL.done hQ ?_
  refine JQ.go ?_
  refine JC.seq ?_
  refine JC.region (by rfl) ?_
  intro hQ
  refine JL.fieldAddr fo_71_0 rfl .none rfl ?_
  refine JL.loadOwn 0 az_3 rfl rfl rfl .none rfl ?_
  refine JL.assign .none rfl ?_
  refine JL.done hQ ?_
  refine JQ.go ?_
  refine JC.ret ?_
  obtain rfl := Option.some.inj hF
  exact JQ.outS rfl (.tmp .nil) rfl

-- 15 ferrule/rains.Takes
def F_rains_Takes (n : Nat) (t : Tour) (route : List Int) : Option (Span × Int) :=
  (F_rains_ends n t route (fun a0_ => F_rains_sale_takings n a0_)).bind fun y3 => some (y3.1, y3.2)
set_option maxRecDepth 100000 in
set_option maxHeartbeats 40000000 in
theorem c_rains_Takes (n : Nat) (H : Hp) (t : Tour) (t_v2 : Value) (ht_2 : SL H 3 R_Rain t_v2 t.Rains) (t_v4 : Value) (ht_4 : SL H 2 R_Fair t_v4 t.Fairs) (route : List Int) (route_v0 : Value) (hroute_0 : SL H 1 RInt route_v0 route) (y : Span × Int) (hF : F_rains_Takes n t route = some y) : SC Try.prog 15 [.agg [.int .i64 t.Days, .int .i64 t.Step, t_v2, .int .i64 t.Wrong, t_v4, .int .i64 t.Reach, .int .i64 t.Stock].toArray, route_v0] (.tuple [.agg [.int .i64 y.1.Low, .int .i64 y.1.High].toArray, .int .i64 y.2].toArray) H := by
  rw [F_rains_Takes] at hF
  refine SC.of (N := 11) Try.func15 rfl rfl rfl fun w => ?_
  refine JC.seq ?_
  refine JC.region (by rfl) ?_
  intro hQ
  refine JL.box (cs := [.int .i64 t.Days, .int .i64 t.Step, t_v2, .int .i64 t.Wrong, t_v4, .int .i64 t.Reach, .int .i64 t.Stock]) rfl .none rfl ?_
  intro b1
  refine JL.alloc ze_31 .none rfl ?_
  intro b2
  refine JL.assign .none rfl ?_
  refine JL.done hQ ?_
  refine JQ.go ?_
  refine JC.seq ?_
  refine JC.region (by rfl) ?_
  intro hQ
  refine JL.loadOwn 1 az_25 rfl rfl rfl .none rfl ?_
  refine JL.move .none rfl ?_
  obtain ⟨y3, hy3, hF⟩ := bind_some hF
  refine JL.callS (c_rains_ends n H t t_v2 ht_2 t_v4 ht_4 route route_v0 hroute_0 (fun a0_ => F_rains_sale_takings n a0_) 47 [] en_47 (fun H' hs' a0_ y' hy' => c_rains_sale_takings n H' a0_ y' hy') y3 hy3) rfl en_46 .none rfl ?_
  refine JL.extract rfl rfl .none rfl ?_
  refine JL.extract rfl rfl .none rfl ?_
  refine JL.storeOwn 0 (cs := [.int .i64 y3.1.Low, .int .i64 y3.1.High]) az_31 rfl rfl rfl (one_cons rfl (one_cons rfl one_nil)) rfl rfl .none ?_
  refine JL.assign .none rfl ?_
  refine JL.done hQ ?_
  refine JQ.go ?_
  refine JC.ret ?_
  obtain rfl := Option.some.inj hF
  exact JQ.outS rfl (.cell 0 az_31 rfl rfl rfl (.tmp .nil)) rfl

-- 73 ferrule/rains.routes
def F_rains_routes (n : Nat) (t : Tour) : Option (Int × Int × Int) :=
  (F_rains_rows n t.Days (w64 ((t.Fairs.length : Int) - 1)) t.Reach).bind fun y2 => some (y2.1, y2.2.1, y2.2.2)
set_option maxRecDepth 100000 in
set_option maxHeartbeats 40000000 in
theorem c_rains_routes (n : Nat) (H : Hp) (t : Tour) (t_v2 : Value) (ht_2 : SL H 3 R_Rain t_v2 t.Rains) (t_v4 : Value) (ht_4 : SL H 2 R_Fair t_v4 t.Fairs) (y : Int × Int × Int) (hF : F_rains_routes n t = some y) : HC Try.prog 73 [.agg [.int .i64 t.Days, .int .i64 t.Step, t_v2, .int .i64 t.Wrong, t_v4, .int .i64 t.Reach, .int .i64 t.Stock].toArray] H (fun H' v => ∃ b0_ b1_ b2_ : Nat, v = .func (.func 82) #[] [.pointer (some ⟨b0_, 0, none⟩), .pointer (some ⟨b1_, 0, none⟩), .pointer (some ⟨b2_, 0, none⟩)].toArray ∧ Cells H' b0_ 0 [.int .i64 y.1] ∧ Cells H' b1_ 0 [.int .i64 y.2.1] ∧ Cells H' b2_ 0 [.int .i64 y.2.2]) := by
  rw [F_rains_routes] at hF
  refine HC.of (N := 12) Try.func73 rfl rfl rfl fun w => ?_
  refine JC.seq ?_
  refine JC.region (by rfl) ?_
  intro hQ
  refine JL.box (cs := [.int .i64 t.Days, .int .i64 t.Step, t_v2, .int .i64 t.Wrong, t_v4, .int .i64 t.Reach, .int .i64 t.Stock]) rfl .none rfl ?_
  intro b1
  refine JL.assign .none rfl ?_
  refine JL.done hQ ?_
  refine JQ.go ?_
  refine JC.seq ?_
  refine JC.region (by rfl) ?_
  intro hQ
  refine JL.fieldAddr fo_25_0 rfl .none rfl ?_
  refine JL.loadOwn 0 az_3 rfl rfl rfl .none rfl ?_
  refine JL.fieldAddr fo_25_4 rfl .none rfl ?_
  refine JL.loadOwn 0 az_23 rfl rfl rfl .none rfl ?_
  refine JL.lenSL (R := R_Fair) ul_23 ht_4 .none rfl ?_
  refine JL.bin rfl rfl rfl .none rfl ?_
  refine JL.fieldAddr fo_25_5 rfl .none rfl ?_
  refine JL.loadOwn 0 az_3 rfl rfl rfl .none rfl ?_
  obtain ⟨y2, hy2, hF⟩ := bind_some hF
  refine JL.callH (c_rains_rows n H t.Days (w64 ((t.Fairs.length : Int) - 1)) t.Reach y2 hy2) rfl en_75 .none rfl ?_
  rintro H3 vv4 hs3 ⟨y2_b0, y2_b1, y2_b2, rfl, hy2_b0, hy2_b1, hy2_b2⟩
  refine JL.assign .none rfl ?_
  refine JL.done hQ ?_
  refine JQ.go ?_
  refine JC.ret ?_
  obtain rfl := Option.some.inj hF
  exact JQ.outH rfl (.tmp .nil) ⟨y2_b0, y2_b1, y2_b2, rfl, hy2_b0, hy2_b1, hy2_b2⟩

-- 53 ferrule/rains.best
def F_rains_best_s1 (n : Nat) (of : Span → Option Int) (w66 : rains_weather) : (List Int × Int) → (List Int) → Option ((List Int × Int) ⊕ Unit)
  | (z_124, z_125), x13 => (F_rains_weather_bounds n w66 x13 (fun a0_ => F_rains_sale_takings n a0_)).bind fun y132 => (of y132).bind fun y133 => (if decide (z_125 < y133) = true then ((F_slices_Clone___int_int_ n x13).bind fun y147 => some (y147, y133)) else (some (z_124, z_125))).bind fun r145 => match r145 with | (z_142, z_143) => some (Sum.inl (z_142, z_143))
def F_rains_best (n : Nat) (t : Tour) (of : Span → Option Int) : Option (Int × (List Int) × Int) :=
  (F_rains_open n t true).bind fun y3 => if (y3.2 != 0) = true then (some (0, ([] : List Int), y3.2)) else ((F_rains_routes n t).bind fun y10 => y3.1.bind fun w66 => (I_rains_rows_1 n y10.1 y10.2.1 y10.2.2 (F_rains_best_s1 n of w66) (([] : List Int), (-1))).bind fun r127 => match r127 with | .inl (z_124, z_125) => some (z_125, z_124, 0) | .inr _ => none)
set_option maxRecDepth 100000 in
set_option maxHeartbeats 40000000 in
theorem c_rains_best (n : Nat) (H : Hp) (t : Tour) (t_v2 : Value) (ht_2 : SL H 3 R_Rain t_v2 t.Rains) (t_v4 : Value) (ht_4 : SL H 2 R_Fair t_v4 t.Fairs) (of : Span → Option Int) (of_k : Nat) (of_c : List Value) (of_e : Ent Try.prog of_k) (of_h : ∀ H', HSub H H' → ∀ (a0_ : Span) (y : Int), of a0_ = some y → SC Try.prog of_k ([.agg [.int .i64 a0_.Low, .int .i64 a0_.High].toArray] ++ of_c) (.int .i64 y) H') (y : Int × (List Int) × Int) (hF : F_rains_best n t of = some y) : HC Try.prog 53 [.agg [.int .i64 t.Days, .int .i64 t.Step, t_v2, .int .i64 t.Wrong, t_v4, .int .i64 t.Reach, .int .i64 t.Stock].toArray, .func (.func of_k) #[] of_c.toArray] H (fun H' v => ∃ rb_v0 : Value, v = .tuple [.int .i64 y.1, rb_v0, .int .i64 y.2.2].toArray ∧ SL H' 1 RInt rb_v0 y.2.1) := by
  rw [F_rains_best] at hF
  refine HC.ofM (N := 37) Try.func53 rfl rfl rfl fun w => ?_
  refine JC.seq ?_
  refine JC.region (by rfl) ?_
  intro hQ
  refine JL.box (cs := [.int .i64 t.Days, .int .i64 t.Step, t_v2, .int .i64 t.Wrong, t_v4, .int .i64 t.Reach, .int .i64 t.Stock]) rfl .none rfl ?_
  intro b1
  refine JL.box (cs := [.func (.func of_k) #[] of_c.toArray]) rfl .none rfl ?_
  intro b2
  refine JL.assign .none rfl ?_
  refine JL.assign .none rfl ?_
  refine JL.assign .none rfl ?_
  refine JL.done hQ ?_
  refine JQ.go ?_
  refine JC.seq ?_
  refine JC.region (by rfl) ?_
  intro hQ
  refine JL.loadOwn 1 az_25 rfl rfl rfl .none rfl ?_
  obtain ⟨y3, hy3, hF⟩ := bind_some hF
  refine JL.callH (c_rains_open n H t t_v2 ht_2 t_v4 ht_4 true y3 hy3) rfl en_59 .none rfl ?_
  rintro H4 vv5 hs4 ⟨y3a_v0, rfl, hy3a_0⟩
  refine JL.move .none rfl ?_
  refine JL.extract rfl rfl .none rfl ?_
  refine JL.extract rfl rfl .none rfl ?_
  refine JL.alloc ze_85 .none rfl ?_
  intro b6
  refine JL.storeOwn 0 (cs := [y3a_v0]) az_85 rfl (PT.vc hy3a_0) rfl (one_cons (PT.one hy3a_0) one_nil) rfl rfl .none ?_
  refine JL.assign .none rfl ?_
  refine JL.done hQ ?_
  refine JQ.go ?_
  refine JC.seq ?_
  refine JC.seq ?_
  refine JC.region (by rfl) ?_
  intro hQ
  refine JL.move .none rfl ?_
  refine JL.bin rfl rfl rfl .none rfl ?_
  refine JL.done hQ ?_
  refine JQ.go ?_
  refine JC.fresh (fun f => f 2 = .pointer (some ⟨b1, 0, none⟩) ∧ f 3 = .pointer (some ⟨b2, 0, none⟩) ∧ f 4 = .int .i64 0 ∧ f 5 = .slice none 0 0 ∧ f 6 = .int .i64 0 ∧ f 7 = .pointer (some ⟨b6, 0, none⟩) ∧ f 8 = .int .i64 y3.2 ∧ f 19 = .bool (y3.2 != 0)) ⟨rfl, rfl, rfl, rfl, rfl, rfl, rfl, rfl⟩ ?_
  rintro f ⟨hf2, hf3, hf4, hf5, hf6, hf7, hf8, hf19⟩
  refine (JC.norm (i := 2) hf2 (JC.norm (i := 3) hf3 (JC.norm (i := 4) hf4 (JC.norm (i := 5) hf5 (JC.norm (i := 6) hf6 (JC.norm (i := 7) hf7 (JC.norm (i := 8) hf8 (JC.norm (i := 19) hf19 ?_))))))))
  rcases ite_some hF with ⟨hc7, hF⟩ | ⟨hc7, hF⟩
  · refine JC.cond_t (b := (y3.2 != 0)) rfl hc7 ?_
    refine JC.seq ?_
    refine JC.region (by rfl) ?_
    intro hQ
    refine JL.move .none rfl ?_
    refine JL.assign .none rfl ?_
    refine JL.assign .none rfl ?_
    refine JL.assign .none rfl ?_
    refine JL.done hQ ?_
    refine JQ.go ?_
    refine JC.ret ?_
    refine JQ.ret_then ?_
    obtain rfl := Option.some.inj hF
    exact JQ.outHM rfl .nil (.tmp (.tmp (.tmp .nil))) ⟨(.slice none 0 0), rfl, SL.nil⟩
  · refine JC.cond_f (b := (y3.2 != 0)) rfl hc7 ?_
    refine JC.skip ?_
    refine JQ.go ?_
    refine JC.seq ?_
    refine JC.region (by rfl) ?_
    intro hQ
    refine JL.alloc ze_3 .none rfl ?_
    intro b8
    refine JL.alloc ze_26 .none rfl ?_
    intro b9
    refine JL.storeOwn 1 (cs := [.int .i64 (-1)]) az_3 rfl rfl rfl (one_cons rfl one_nil) rfl rfl .none ?_
    refine JL.storeOwn 0 (cs := [.slice none 0 0]) az_26 rfl rfl rfl (one_cons rfl one_nil) rfl rfl .none ?_
    refine JL.done hQ ?_
    refine JQ.go ?_
    refine JC.seq ?_
    refine JC.seq ?_
    refine JC.region (by rfl) ?_
    intro hQ
    refine JL.loadOwn 4 az_25 rfl rfl rfl .none rfl ?_
    obtain ⟨y10, hy10, hF⟩ := bind_some hF
    refine JL.callH (c_rains_routes n H4 t t_v2 (SL.mono R_Rain_mono hs4 ht_2) t_v4 (SL.mono R_Fair_mono hs4 ht_4) y10 hy10) rfl en_73 .none rfl ?_
    rintro H11 vv12 hs11 ⟨y10_b0, y10_b1, y10_b2, rfl, hy10_b0, hy10_b1, hy10_b2⟩
    refine JL.done hQ ?_
    refine JQ.go ?_
    refine JC.block ?_
    obtain ⟨w66, hw66, hF⟩ := bind_some hF
    obtain ⟨b67, o68, cs69, hv70, hc71, ⟨w66_v2, w66_v4, w66_v7, rfl, hw66_2, hw66_4, hw66_7⟩⟩ := (show PT H11 R_rains_weather y3a_v0 (some w66) by rw [← hw66]; exact (PT.mono R_rains_weather_mono hs11 hy3a_0))
    subst hv70
    obtain ⟨r127, hl128, hF⟩ := bind_some hF
    refine JC.mask [true, true, true, true, false] [] ?_
    refine JC.rangeFunc (ρ := Unit) (V := (VRow 3)) (F := fun _ _ step s => I_rains_rows_1 n y10.1 y10.2.1 y10.2.2 step s) rfl en_82 (it_rains_rows_1 n H11 y10.1 y10_b0 hy10_b0 y10.2.1 y10_b1 hy10_b1 y10.2.2 y10_b2 hy10_b2) rfl hl128 (fun (z : List Int × Int) H126 fr gs => match z with | (z_124, z_125) => ∃ (vz_124 : Value), fr = [(b9, .cells [vz_124].toArray 26), (b8, .cells [.int .i64 z_125].toArray 3), (b6, .cells [.pointer (some ⟨b67, o68, none⟩)].toArray 85), (b2, .cells [.func (.func of_k) #[] of_c.toArray].toArray 80)] ∧ gs = [] ∧ SL H126 1 RInt vz_124 z_124 ∧ HSub H11 H126) (fun _ _ _ _ _ => False) ⟨(.slice none 0 0), rfl, rfl, SL.nil, (HSub.refl _)⟩ ?_ ?_ ?_
    · rintro l14 ⟨z_124, z_125⟩ x13 y129 v15 own T16 H126 fr gs ⟨vz_124, rfl, rfl, hz_124, hs126⟩ hF ⟨b18, c19, rfl, rfl, hb20, hb21⟩ -
      rw [F_rains_best_s1] at hF
      refine JC.region (by rfl) ?_
      intro hQ
      refine JL.assign .none rfl ?_
      refine JL.done hQ ?_
      refine JQ.assigned [(b9, .cells [vz_124].toArray 26), (b8, .cells [.int .i64 z_125].toArray 3), (b6, .cells [.pointer (some ⟨b67, o68, none⟩)].toArray 85), (b2, .cells [.func (.func of_k) #[] of_c.toArray].toArray 80), (b18, .cells (x13.map (Value.int .i64)).toArray 3)] (fun T17 => ?_)
      refine JC.block ?_
      refine JC.seq ?_
      refine JC.draw (by rfl) mo_ (by kernel_rfl) ?_
      intro hQ
      refine JL.loadOwn 3 az_80 rfl rfl rfl .none rfl ?_
      refine JL.loadOwn 2 az_85 rfl rfl rfl .none rfl ?_
      refine JL.move .none rfl ?_
      obtain ⟨y132, hy132, hF⟩ := bind_some hF
      refine JL.callLS 4 rfl (fun hz => c_rains_weather_bounds n _ w66 w66_v2 (SL.mono R_Rain_mono hz (SL.mono R_Rain_mono hs126 hw66_2)) w66_v4 (SL.mono R_Fair_mono hz (SL.mono R_Fair_mono hs126 hw66_4)) w66_v7 (SL.mono (RSl.mono RInt.mono) hz (SL.mono (RSl.mono RInt.mono) hs126 hw66_7)) b67 o68 (Cells.mono hz (Cells.mono hs126 hc71)) x13 (.slice (some ⟨b18, 0, none⟩) x13.length c19) (SL.lentRow hb20 hb21) (fun a0_ => F_rains_sale_takings n a0_) 47 [] en_47 (fun H' hs' a0_ y' hy' => c_rains_sale_takings n H' a0_ y' hy') y132 hy132) rfl en_72 .none rfl ?_
      obtain ⟨y133, hy133, hF⟩ := bind_some hF
      refine JL.callV rfl (of_h H126 (HSub.trans hs4 (HSub.trans hs11 hs126)) y132 y133 hy133) rfl of_e .none rfl ?_
      refine JL.assign .none rfl ?_
      refine JL.doneQ hQ ?_
      refine JQ.go ?_
      refine JC.seq ?_
      refine JC.region (by rfl) ?_
      intro hQ
      refine JL.move .none rfl ?_
      refine JL.loadOwn 1 az_3 rfl rfl rfl .none rfl ?_
      refine JL.bin rfl rfl rfl .none rfl ?_
      refine JL.done hQ ?_
      refine JQ.go ?_
      refine JC.fresh (fun f => f 9 = .pointer (some ⟨b8, 0, none⟩) ∧ f 10 = .pointer (some ⟨b9, 0, none⟩) ∧ f 11 = (.slice (some ⟨b18, 0, none⟩) x13.length c19) ∧ f 12 = .int .i64 y133 ∧ f 31 = .bool (decide (z_125 < y133))) ⟨rfl, rfl, rfl, rfl, rfl⟩ ?_
      rintro f ⟨hf9, hf10, hf11, hf12, hf31⟩
      refine (JC.norm (i := 9) hf9 (JC.norm (i := 10) hf10 (JC.norm (i := 11) hf11 (JC.norm (i := 12) hf12 (JC.norm (i := 31) hf31 ?_)))))
      obtain ⟨r145, hlr145, hKr145⟩ := bind_some hF
      refine JC.join (fun (x : List Int × Int) H144 f bs gs => match x with | (z_142, z_143) => ∃ (vz_142 : Value), bs = ((b9, .cells [vz_142].toArray 26) :: (b8, .cells [.int .i64 z_143].toArray 3) :: (b6, .cells [.pointer (some ⟨b67, o68, none⟩)].toArray 85) :: (b2, .cells [.func (.func of_k) #[] of_c.toArray].toArray 80) :: (b18, .cells (x13.map (Value.int .i64)).toArray 3) :: T17) ∧ gs = [] ∧ SL H144 1 RInt vz_142 z_142 ∧ HSub H126 H144 ∧ (z_142, z_143) = r145) ?_ ?_
      · have hF := hlr145
        rcases ite_some hF with ⟨hc146, hF⟩ | ⟨hc146, hF⟩
        · refine JC.cond_t (b := decide (z_125 < y133)) rfl hc146 ?_
          refine JC.region (by rfl) ?_
          intro hQ
          refine JL.move .none rfl ?_
          refine JL.move .none rfl ?_
          obtain ⟨y147, hy147, hF⟩ := bind_some hF
          refine JL.callLO 4 rfl (fun hz => c_slices_Clone___int_int_ n _ x13 (.slice (some ⟨b18, 0, none⟩) x13.length c19) (SL.lentRow hb20 hb21) y147 hy147) rfl en_74 .none rfl ?_
          rintro v148 _ xs149 ⟨rfl, hch150⟩
          replace hch150 := CH.flat (H' := H126) hch150
          refine JL.storeOwn 1 (cs := [.int .i64 y133]) az_3 rfl rfl rfl (one_cons rfl one_nil) rfl rfl .none ?_
          refine JL.freezeG 0 (R := RInt) rfl RInt.mono hch150 rfl ?_
          intro H152 hs152 hg153
          refine JL.storeOwn 0 (cs := [v148]) az_26 rfl (SL.vc hg153) rfl (one_cons (SL.one hg153) one_nil) rfl rfl .none ?_
          refine JL.done hQ ?_
          obtain rfl := Option.some.inj hF
          exact JQ.join (y147, y133) ⟨v148, rfl, rfl, hg153, hs152, rfl⟩
        · refine JC.cond_f (b := decide (z_125 < y133)) rfl hc146 ?_
          refine JC.skip ?_
          obtain rfl := Option.some.inj hF
          exact JQ.join (z_124, z_125) ⟨vz_124, rfl, rfl, hz_124, (HSub.refl _), rfl⟩
      · rintro ⟨z_142, z_143⟩ H144 f bs gs ⟨vz_142, rfl, rfl, hz_142, hs144, rfl⟩
        have hF := hKr145
        try dsimp only at hF
        refine JQ.normal_block ?_
        obtain rfl := Option.some.inj hF
        refine JQ.round rfl [(b9, .cells [vz_142].toArray 26), (b8, .cells [.int .i64 z_143].toArray 3), (b6, .cells [.pointer (some ⟨b67, o68, none⟩)].toArray 85), (b2, .cells [.func (.func of_k) #[] of_c.toArray].toArray 80)] hs144 ?_
        exact ⟨vz_142, rfl, rfl, hz_142, (HSub.trans hs126 hs144)⟩
    · rintro D154 ⟨z_124, z_125⟩ H126 fr gs rfl ⟨vz_124, rfl, rfl, hz_124, hs126⟩ -
      try dsimp only at hF
      refine JQ.normal_block ?_
      refine JQ.go ?_
      refine JC.seq ?_
      refine JC.draw (by rfl) mo_ (by kernel_rfl) ?_
      intro hQ
      refine JL.loadOwn 1 az_3 rfl rfl rfl .none rfl ?_
      refine JL.loadOwn 0 az_26 rfl rfl rfl .none rfl ?_
      refine JL.assign .none rfl ?_
      refine JL.assign .none rfl ?_
      refine JL.assign .none rfl ?_
      refine JL.doneQ hQ ?_
      refine JQ.go ?_
      refine JC.fresh (fun f => f 4 = .int .i64 z_125 ∧ f 5 = vz_124 ∧ f 6 = .int .i64 0) ⟨rfl, rfl, rfl⟩ ?_
      rintro f ⟨hf4, hf5, hf6⟩
      refine (JC.norm (i := 4) hf4 (JC.norm (i := 5) hf5 (JC.norm (i := 6) hf6 ?_)))
      refine JC.ret ?_
      obtain rfl := Option.some.inj hF
      exact JQ.outHM rfl (.cons 4 rfl .nil) (.tmp (.tmp (.tmp .nil))) ⟨vz_124, rfl, hz_124⟩
    · rintro _ _ _ _ _ _ _ h; exact h.elim

-- 54 ferrule/rains.low
def F_rains_low (n : Nat) (s : Span) : Option Int :=
  some s.Low
set_option maxRecDepth 100000 in
set_option maxHeartbeats 40000000 in
theorem c_rains_low (n : Nat) (H : Hp) (s : Span) (y : Int) (hF : F_rains_low n s = some y) : SC Try.prog 54 [.agg [.int .i64 s.Low, .int .i64 s.High].toArray] (.int .i64 y) H := by
  rw [F_rains_low] at hF
  refine SC.of (N := 5) Try.func54 rfl rfl rfl fun w => ?_
  refine JC.seq ?_
  refine JC.region (by rfl) ?_
  intro hQ
  refine JL.box (cs := [.int .i64 s.Low, .int .i64 s.High]) rfl .none rfl ?_
  intro b1
  refine JL.assign .none rfl ?_
  refine JL.done hQ ?_
  refine JQ.go ?_
  refine JC.seq ?_
  refine JC.region (by rfl) ?_
  intro hQ
  refine JL.fieldAddr fo_31_0 rfl .none rfl ?_
  refine JL.loadOwn 0 az_3 rfl rfl rfl .none rfl ?_
  refine JL.assign .none rfl ?_
  refine JL.done hQ ?_
  refine JQ.go ?_
  refine JC.ret ?_
  obtain rfl := Option.some.inj hF
  exact JQ.outS rfl (.tmp .nil) rfl

-- 23 ferrule/rains.Best
def F_rains_Best (n : Nat) (t : Tour) : Option (Int × Int) :=
  (F_rains_best n t (fun a0_ => F_rains_low n a0_)).bind fun y2 => some (y2.1, y2.2.2)
set_option maxRecDepth 100000 in
set_option maxHeartbeats 40000000 in
theorem c_rains_Best (n : Nat) (H : Hp) (t : Tour) (t_v2 : Value) (ht_2 : SL H 3 R_Rain t_v2 t.Rains) (t_v4 : Value) (ht_4 : SL H 2 R_Fair t_v4 t.Fairs) (y : Int × Int) (hF : F_rains_Best n t = some y) : SC Try.prog 23 [.agg [.int .i64 t.Days, .int .i64 t.Step, t_v2, .int .i64 t.Wrong, t_v4, .int .i64 t.Reach, .int .i64 t.Stock].toArray] (.tuple [.int .i64 y.1, .int .i64 y.2].toArray) H := by
  rw [F_rains_Best] at hF
  refine SC.of (N := 15) Try.func23 rfl rfl rfl fun w => ?_
  refine JC.seq ?_
  refine JC.region (by rfl) ?_
  intro hQ
  refine JL.box (cs := [.int .i64 t.Days, .int .i64 t.Step, t_v2, .int .i64 t.Wrong, t_v4, .int .i64 t.Reach, .int .i64 t.Stock]) rfl .none rfl ?_
  intro b1
  refine JL.assign .none rfl ?_
  refine JL.assign .none rfl ?_
  refine JL.done hQ ?_
  refine JQ.go ?_
  refine JC.seq ?_
  refine JC.region (by rfl) ?_
  intro hQ
  refine JL.loadOwn 0 az_25 rfl rfl rfl .none rfl ?_
  obtain ⟨y2, hy2, hF⟩ := bind_some hF
  refine JL.callH (c_rains_best n H t t_v2 ht_2 t_v4 ht_4 (fun a0_ => F_rains_low n a0_) 54 [] en_54 (fun H' hs' a0_ y' hy' => c_rains_low n H' a0_ y' hy') y2 hy2) rfl en_53 .none rfl ?_
  rintro H3 vv4 hs3 ⟨y2b_v0, rfl, hy2b_0⟩
  refine JL.move .none rfl ?_
  refine JL.extract rfl rfl .none rfl ?_
  refine JL.extract rfl rfl .none rfl ?_
  refine JL.extract rfl rfl .none rfl ?_
  refine JL.assign .none rfl ?_
  refine JL.assign .none rfl ?_
  refine JL.assign .none rfl ?_
  refine JL.done hQ ?_
  refine JQ.go ?_
  refine JC.seq ?_
  refine JC.region (by rfl) ?_
  intro hQ
  refine JL.move .none rfl ?_
  refine JL.move .none rfl ?_
  refine JL.assign .none rfl ?_
  refine JL.assign .none rfl ?_
  refine JL.done hQ ?_
  refine JQ.go ?_
  refine JC.fresh (fun f => f 2 = .int .i64 y2.1 ∧ f 3 = .int .i64 y2.2.2) ⟨rfl, rfl⟩ ?_
  rintro f ⟨hf2, hf3⟩
  refine (JC.norm (i := 2) hf2 (JC.norm (i := 3) hf3 ?_))
  refine JC.ret ?_
  obtain rfl := Option.some.inj hF
  exact JQ.outS rfl (.tmp (.tmp .nil)) rfl

-- 63 ferrule/rains.Levels$1
def F_rains_Levels_1 (n : Nat) (truth : List Int) (c_0 : Int) (c_1 : Int) : Option Bool :=
  (geti truth c_0).bind fun y6 => some (y6 == c_1)
set_option maxRecDepth 100000 in
set_option maxHeartbeats 40000000 in
theorem c_rains_Levels_1 (n : Nat) (H : Hp) (truth : List Int) (truth_v0 : Value) (htruth_0 : SL H 1 RInt truth_v0 truth) (c_0 : Int) (c_0_b : Nat) (c_0_c : Cells H c_0_b 0 [.int .i64 c_0]) (c_1 : Int) (c_1_b : Nat) (c_1_c : Cells H c_1_b 0 [.int .i64 c_1]) (y : Bool) (hF : F_rains_Levels_1 n truth c_0 c_1 = some y) : SC Try.prog 63 [truth_v0, .pointer (some ⟨c_0_b, 0, none⟩), .pointer (some ⟨c_1_b, 0, none⟩)] (.bool y) H := by
  rw [F_rains_Levels_1] at hF
  refine SC.of (N := 11) Try.func63 rfl rfl rfl fun w => ?_
  refine JC.seq ?_
  refine JC.region (by rfl) ?_
  intro hQ
  refine JL.assign .none rfl ?_
  refine JL.done hQ ?_
  refine JQ.go ?_
  refine JC.seq ?_
  refine JC.draw (by rfl) mo_ (by kernel_rfl) ?_
  intro hQ
  refine JL.move .none rfl ?_
  refine JL.loadH 0 az_3 rfl c_0_c rfl .none rfl ?_
  obtain ⟨y6, hy6, hF⟩ := bind_some hF
  refine JL.indexSL (R := RInt) sl_26 htruth_0 rfl hy6 .none rfl ?_
  rintro b7 o8 cs9 hc10 - rfl
  refine JL.loadH 0 az_3 rfl hc10 rfl .none rfl ?_
  refine JL.loadH 0 az_3 rfl c_1_c rfl .none rfl ?_
  refine JL.bin rfl rfl rfl .none rfl ?_
  refine JL.assign .none rfl ?_
  refine JL.doneQ hQ ?_
  refine JQ.go ?_
  refine JC.ret ?_
  obtain rfl := Option.some.inj hF
  exact JQ.outS rfl (.tmp .nil) rfl

-- 76 slices.IndexFunc[[][]int,[]int]
def F_slices_IndexFunc_____int___int__s1 (n : Nat) (s : List (List Int)) (f_ : (List Int) → Option Bool) : Int → Option (Int ⊕ (Int ⊕ Unit))
  | x_55 => if decide (x_55 < (s.length : Int)) = true then ((geti s x_55).bind fun y60 => (f_ y60).bind fun y65 => if y65 = true then (some (Sum.inr (Sum.inl x_55))) else (some (Sum.inl (w64 (x_55 + 1))))) else (some (Sum.inr (Sum.inr ())))
def F_slices_IndexFunc_____int___int_ (n : Nat) (s : List (List Int)) (f_ : (List Int) → Option Bool) : Option Int :=
  (loopO n (F_slices_IndexFunc_____int___int__s1 n s f_) 0).bind fun r34 => match r34 with | .inl o => some o | .inr _ => some (-1)
set_option maxRecDepth 100000 in
set_option maxHeartbeats 40000000 in
theorem c_slices_IndexFunc_____int___int_ (n : Nat) (H : Hp) (s : List (List Int)) (s_v0 : Value) (hs_0 : SL H 1 (RSl 1 RInt) s_v0 s) (f_ : (List Int) → Option Bool) (f__k : Nat) (f__c : List Value) (f__e : Ent Try.prog f__k) (f__h : ∀ H', HSub H H' → ∀ (a0_ : List Int) (a0__v0 : Value) (ha0__0 : SL H' 1 RInt a0__v0 a0_) (y : Bool), f_ a0_ = some y → SC Try.prog f__k ([a0__v0] ++ f__c) (.bool y) H') (y : Int) (hF : F_slices_IndexFunc_____int___int_ n s f_ = some y) : SC Try.prog 76 [s_v0, .func (.func f__k) #[] f__c.toArray] (.int .i64 y) H := by
  rw [F_slices_IndexFunc_____int___int_] at hF
  refine SC.of (N := 19) Try.func76 rfl rfl rfl fun w => ?_
  refine JC.seq ?_
  refine JC.region (by rfl) ?_
  intro hQ
  refine JL.assign .none rfl ?_
  refine JL.done hQ ?_
  refine JQ.go ?_
  refine JC.seq ?_
  refine JC.seq ?_
  refine JC.region (by rfl) ?_
  intro hQ
  refine JL.move .none rfl ?_
  refine JL.lenSL (R := (RSl 1 RInt)) ul_72 hs_0 .none rfl ?_
  refine JL.move .none rfl ?_
  refine JL.done hQ ?_
  refine JQ.go ?_
  obtain ⟨r34, hlr34, hKr34⟩ := bind_some hF
  refine JC.join (fun (_ : Unit) H33 f bs gs => bs = [] ∧ gs = [] ∧ HSub H H33 ∧ Sum.inr () = r34) ?_ ?_
  · skip
    refine JC.block ?_
    refine JC.loop hlr34 (fun (x_55 : Int) H56 f bs gs => f 0 = s_v0 ∧ f 1 = .func (.func f__k) #[] f__c.toArray ∧ f 7 = .int .i64 (s.length : Int) ∧ f 8 = .int .i64 x_55 ∧ bs = [] ∧ gs = [] ∧ HSub H H56) ⟨rfl, rfl, rfl, rfl, rfl, rfl, (HSub.refl _)⟩ ?_
    rintro x_55 x58 H56 f bs gs ⟨hf0, hf1, hf7, hf8, rfl, rfl, hs56⟩ hF hr57
    rw [F_slices_IndexFunc_____int___int__s1] at hF
    refine (JC.norm (i := 0) hf0 (JC.norm (i := 1) hf1 (JC.norm (i := 7) hf7 (JC.norm (i := 8) hf8 ?_))))
    refine JC.seq ?_
    refine JC.region (by rfl) ?_
    intro hQ
    refine JL.bin rfl rfl rfl .none rfl ?_
    refine JL.done hQ ?_
    refine JQ.go ?_
    refine JC.seq ?_
    rcases ite_some hF with ⟨hc59, hF⟩ | ⟨hc59, hF⟩
    · refine JC.cond_t (b := decide (x_55 < (s.length : Int))) rfl hc59 ?_
      refine JC.skip ?_
      refine JQ.go ?_
      refine JC.seq ?_
      refine JC.block ?_
      refine JC.seq ?_
      refine JC.region (by rfl) ?_
      intro hQ
      refine JL.move .none rfl ?_
      refine JL.assign .none rfl ?_
      refine JL.done hQ ?_
      refine JQ.go ?_
      refine JC.seq ?_
      refine JC.region (by rfl) ?_
      intro hQ
      refine JL.move .none rfl ?_
      refine JL.move .none rfl ?_
      refine JL.move .none rfl ?_
      obtain ⟨y60, hy60, hF⟩ := bind_some hF
      refine JL.indexSL (R := (RSl 1 RInt)) sl_72 (SL.mono (RSl.mono RInt.mono) hs56 hs_0) rfl hy60 .none rfl ?_
      rintro b61 o62 cs63 hc64 - ⟨y60_v0, rfl, hy60_0⟩
      refine JL.loadH 0 az_26 rfl hc64 rfl .none rfl ?_
      obtain ⟨y65, hy65, hF⟩ := bind_some hF
      refine JL.callV rfl (f__h H56 hs56 y60 y60_v0 hy60_0 y65 hy65) rfl f__e .none rfl ?_
      refine JL.done hQ ?_
      refine JQ.go ?_
      rcases ite_some hF with ⟨hc66, hF⟩ | ⟨hc66, hF⟩
      · refine JC.cond_t (b := y65) rfl hc66 ?_
        refine JC.seq ?_
        refine JC.region (by rfl) ?_
        intro hQ
        refine JL.move .none rfl ?_
        refine JL.assign .none rfl ?_
        refine JL.done hQ ?_
        refine JQ.go ?_
        refine JC.fresh (fun f => f 4 = .int .i64 x_55) rfl ?_
        rintro f hf4
        refine (JC.norm (i := 4) hf4 ?_)
        refine JC.ret ?_
        refine JQ.ret_block ?_
        refine JQ.ret_then ?_
        refine JQ.ret_then ?_
        refine JQ.ret_block ?_
        refine JQ.ret_join ?_
        refine JQ.ret_then ?_
        obtain rfl := Option.some.inj hF
        have ehr57 := hr57 _ rfl
        subst ehr57
        have hF := hKr34
        try dsimp only at hF
        obtain rfl := Option.some.inj hF
        exact JQ.outS rfl (.tmp .nil) rfl
      · refine JC.cond_f (b := y65) rfl hc66 ?_
        refine JC.skip ?_
        refine JQ.normal_block ?_
        refine JQ.go ?_
        refine JC.region (by rfl) ?_
        intro hQ
        refine JL.bin rfl rfl rfl .none rfl ?_
        refine JL.move .none rfl ?_
        refine JL.done hQ ?_
        obtain rfl := Option.some.inj hF
        exact JQ.next rfl ⟨rfl, rfl, rfl, rfl, rfl, rfl, hs56⟩
    · refine JC.cond_f (b := decide (x_55 < (s.length : Int))) rfl hc59 ?_
      refine JC.exit ?_
      refine JQ.exit_then ?_
      refine JQ.exit_then ?_
      refine JQ.exit_block ?_
      obtain rfl := Option.some.inj hF
      have ehr57 := hr57 _ rfl
      subst ehr57
      exact JQ.join () ⟨rfl, rfl, hs56, rfl⟩
  · rintro _ H33 f bs gs ⟨rfl, rfl, hs33, rfl⟩
    have hF := hKr34
    try dsimp only at hF
    refine JQ.go ?_
    refine JC.seq ?_
    refine JC.region (by rfl) ?_
    intro hQ
    refine JL.assign .none rfl ?_
    refine JL.done hQ ?_
    refine JQ.go ?_
    refine JC.ret ?_
    obtain rfl := Option.some.inj hF
    exact JQ.outS rfl (.tmp .nil) rfl

-- 62 slices.ContainsFunc[[][]int,[]int]
def F_slices_ContainsFunc_____int___int_ (n : Nat) (s : List (List Int)) (f_ : (List Int) → Option Bool) : Option Bool :=
  (F_slices_IndexFunc_____int___int_ n s f_).bind fun y1 => some (decide (0 ≤ y1))
set_option maxRecDepth 100000 in
set_option maxHeartbeats 40000000 in
theorem c_slices_ContainsFunc_____int___int_ (n : Nat) (H : Hp) (s : List (List Int)) (s_v0 : Value) (hs_0 : SL H 1 (RSl 1 RInt) s_v0 s) (f_ : (List Int) → Option Bool) (f__k : Nat) (f__c : List Value) (f__e : Ent Try.prog f__k) (f__h : ∀ H', HSub H H' → ∀ (a0_ : List Int) (a0__v0 : Value) (ha0__0 : SL H' 1 RInt a0__v0 a0_) (y : Bool), f_ a0_ = some y → SC Try.prog f__k ([a0__v0] ++ f__c) (.bool y) H') (y : Bool) (hF : F_slices_ContainsFunc_____int___int_ n s f_ = some y) : SC Try.prog 62 [s_v0, .func (.func f__k) #[] f__c.toArray] (.bool y) H := by
  rw [F_slices_ContainsFunc_____int___int_] at hF
  refine SC.of (N := 9) Try.func62 rfl rfl rfl fun w => ?_
  refine JC.seq ?_
  refine JC.region (by rfl) ?_
  intro hQ
  refine JL.assign .none rfl ?_
  refine JL.done hQ ?_
  refine JQ.go ?_
  refine JC.seq ?_
  refine JC.region (by rfl) ?_
  intro hQ
  refine JL.move .none rfl ?_
  refine JL.move .none rfl ?_
  obtain ⟨y1, hy1, hF⟩ := bind_some hF
  refine JL.callS (c_slices_IndexFunc_____int___int_ n H s s_v0 hs_0 f_ f__k f__c f__e (fun H' hs' => f__h H' hs') y1 hy1) rfl en_76 .none rfl ?_
  refine JL.bin rfl rfl rfl .none rfl ?_
  refine JL.assign .none rfl ?_
  refine JL.done hQ ?_
  refine JQ.go ?_
  refine JC.ret ?_
  obtain rfl := Option.some.inj hF
  exact JQ.outS rfl (.tmp .nil) rfl

-- 31 ferrule/rains.Levels
def F_rains_Levels_s1 (n : Nat) (day : Int) (w88 : rains_weather) : Int × List Int → Option ((Int × List Int) ⊕ (List Int))
  | (x_244, out_245) => if decide (x_244 < 4) = true then ((F_slices_ContainsFunc_____int___int_ n w88.truths (fun a0_ => F_rains_Levels_1 n a0_ day x_244)).bind fun y253 => (if y253 = true then ((lim (out_245 ++ [x_244])).bind fun l265 => some l265) else (some out_245)).bind fun out_260 => some (Sum.inl ((w64 (x_244 + 1)), out_260))) else (some (Sum.inr out_245))
def F_rains_Levels (n : Nat) (t : Tour) (day : Int) : Option ((List Int) × Int) :=
  (F_rains_within n day 0 (w64 (t.Days - 1))).bind fun y5 => (F_rains_open n t y5).bind fun y6 => if (y6.2 != 0) = true then (some (([] : List Int), y6.2)) else (y6.1.bind fun w88 => (loopO n (F_rains_Levels_s1 n day w88) (0, ([] : List Int))).bind fun out_195 => some (out_195, 0))
set_option maxRecDepth 100000 in
set_option maxHeartbeats 40000000 in
theorem c_rains_Levels (n : Nat) (H : Hp) (t : Tour) (t_v2 : Value) (ht_2 : SL H 3 R_Rain t_v2 t.Rains) (t_v4 : Value) (ht_4 : SL H 2 R_Fair t_v4 t.Fairs) (day : Int) (y : (List Int) × Int) (hF : F_rains_Levels n t day = some y) : HC Try.prog 31 [.agg [.int .i64 t.Days, .int .i64 t.Step, t_v2, .int .i64 t.Wrong, t_v4, .int .i64 t.Reach, .int .i64 t.Stock].toArray, .int .i64 day] H (fun H' v => ∃ ra_v0 : Value, v = .tuple [ra_v0, .int .i64 y.2].toArray ∧ SL H' 1 RInt ra_v0 y.1) := by
  rw [F_rains_Levels] at hF
  refine HC.of (N := 38) Try.func31 rfl rfl rfl fun w => ?_
  refine JC.seq ?_
  refine JC.region (by rfl) ?_
  intro hQ
  refine JL.box (cs := [.int .i64 t.Days, .int .i64 t.Step, t_v2, .int .i64 t.Wrong, t_v4, .int .i64 t.Reach, .int .i64 t.Stock]) rfl .none rfl ?_
  intro b1
  refine JL.box (cs := [.int .i64 day]) rfl .none rfl ?_
  intro b2
  refine JL.assign .none rfl ?_
  refine JL.assign .none rfl ?_
  refine JL.done hQ ?_
  refine JQ.go ?_
  refine JC.seq ?_
  obtain ⟨y5, hy5, hF⟩ := bind_some hF
  obtain ⟨y6, hy6, hF⟩ := bind_some hF
  refine JC.mixed 12 12 #[false, false, false, false, false, false, false, false, false, false, false, false] [(b2, .cells [.int .i64 day].toArray 3), (b1, .cells [.int .i64 t.Days, .int .i64 t.Step, t_v2, .int .i64 t.Wrong, t_v4, .int .i64 t.Reach, .int .i64 t.Stock].toArray 25)] (by rfl) mo_ (by kernel_rfl) (by kernel_rfl) ?_
  intro hQ hE
  refine JA.take 0 (listed' := #[true, false, false, false, false, false, false, false, false, false, false, false]) hQ rfl (by kernel_rfl) (by kernel_rfl) (by kernel_rfl) (by kernel_rfl) (by kernel_rfl) hE (HSub.refl _) (.cons_cons _ (.cons_cons _ (List.nil_sublist _))) ?_
  refine JL.loadOwn 1 az_25 rfl rfl rfl .none rfl ?_
  refine JA.cont ?_
  refine JA.take 1 (listed' := #[true, true, false, false, false, false, false, false, false, false, false, false]) hQ rfl (by kernel_rfl) (by kernel_rfl) (by kernel_rfl) (by kernel_rfl) (by kernel_rfl) hE (HSub.refl _) (.cons_cons _ (.cons_cons _ (List.nil_sublist _))) ?_
  refine JL.loadOwn 0 az_3 rfl rfl rfl .none rfl ?_
  refine JA.cont ?_
  refine JA.take 2 (listed' := #[true, true, true, false, false, false, false, false, false, false, false, false]) hQ rfl (by kernel_rfl) (by kernel_rfl) (by kernel_rfl) (by kernel_rfl) (by kernel_rfl) hE (HSub.refl _) (.cons_cons _ (.cons_cons _ (List.nil_sublist _))) ?_
  refine JL.fieldAddr fo_25_0 rfl .none rfl ?_
  refine JA.cont ?_
  refine JA.take 3 (listed' := #[true, true, true, true, false, false, false, false, false, false, false, false]) hQ rfl (by kernel_rfl) (by kernel_rfl) (by kernel_rfl) (by kernel_rfl) (by kernel_rfl) hE (HSub.refl _) (.cons_cons _ (.cons_cons _ (List.nil_sublist _))) ?_
  refine JL.loadOwn 1 az_3 rfl rfl rfl .none rfl ?_
  refine JA.cont ?_
  refine JA.take 4 (listed' := #[true, true, true, true, true, false, false, false, false, false, false, false]) hQ rfl (by kernel_rfl) (by kernel_rfl) (by kernel_rfl) (by kernel_rfl) (by kernel_rfl) hE (HSub.refl _) (.cons_cons _ (.cons_cons _ (List.nil_sublist _))) ?_
  refine JL.bin rfl rfl rfl .none rfl ?_
  refine JA.cont ?_
  refine JA.many [5] (by kernel_rfl) (by simp) (all_one ⟨_, #[true, true, true, true, true, true, false, false, false, false, false, false], rfl, (by kernel_rfl), ?_⟩)
  refine JL.callS (c_rains_within n H day 0 (w64 (t.Days - 1)) y5 hy5) rfl en_61 .none rfl ?_
  refine JA.after hE (HSub.refl _) (.cons_cons _ (.cons_cons _ (List.nil_sublist _))) ?_
  refine JA.many [6] (by kernel_rfl) (by simp) (all_one ⟨_, #[true, true, true, true, true, true, true, false, false, false, false, false], rfl, (by kernel_rfl), ?_⟩)
  refine JL.callH (c_rains_open n H t t_v2 ht_2 t_v4 ht_4 y5 y6 hy6) rfl en_59 .none rfl ?_
  rintro H11 vv12 hs11 ⟨y6a_v0, rfl, hy6a_0⟩
  refine JA.after hE hs11 (.cons_cons _ (.cons_cons _ (List.nil_sublist _))) ?_
  refine JA.take 7 (listed' := #[true, true, true, true, true, true, true, true, false, false, false, false]) hQ rfl (by kernel_rfl) (by kernel_rfl) (by kernel_rfl) (by kernel_rfl) (by kernel_rfl) hE hs11 (.cons_cons _ (.cons_cons _ (List.nil_sublist _))) ?_
  refine JL.move .none rfl ?_
  refine JA.cont ?_
  refine JA.take 8 (listed' := #[true, true, true, true, true, true, true, true, true, false, false, false]) hQ rfl (by kernel_rfl) (by kernel_rfl) (by kernel_rfl) (by kernel_rfl) (by kernel_rfl) hE hs11 (.cons_cons _ (.cons_cons _ (List.nil_sublist _))) ?_
  refine JL.extract rfl rfl .none rfl ?_
  refine JA.cont ?_
  refine JA.take 9 (listed' := #[true, true, true, true, true, true, true, true, true, true, false, false]) hQ rfl (by kernel_rfl) (by kernel_rfl) (by kernel_rfl) (by kernel_rfl) (by kernel_rfl) hE hs11 (.cons_cons _ (.cons_cons _ (List.nil_sublist _))) ?_
  refine JL.extract rfl rfl .none rfl ?_
  refine JA.cont ?_
  refine JA.take 10 (listed' := #[true, true, true, true, true, true, true, true, true, true, true, false]) hQ rfl (by kernel_rfl) (by kernel_rfl) (by kernel_rfl) (by kernel_rfl) (by kernel_rfl) hE hs11 (.cons_cons _ (.cons_cons _ (List.nil_sublist _))) ?_
  refine JL.assign .none rfl ?_
  refine JA.cont ?_
  refine JA.take 11 (listed' := #[true, true, true, true, true, true, true, true, true, true, true, true]) hQ rfl (by kernel_rfl) (by kernel_rfl) (by kernel_rfl) (by kernel_rfl) (by kernel_rfl) hE hs11 (.cons_cons _ (.cons_cons _ (List.nil_sublist _))) ?_
  refine JL.assign .none rfl ?_
  refine JA.cont ?_
  refine JA.done hQ (by kernel_rfl) ?_
  refine JQ.go ?_
  refine JC.fresh (fun f => f 3 = .pointer (some ⟨b2, 0, none⟩) ∧ f 4 = .slice none 0 0 ∧ f 5 = .int .i64 0 ∧ f 6 = y6a_v0 ∧ f 7 = .int .i64 y6.2) ⟨rfl, rfl, rfl, rfl, rfl⟩ ?_
  rintro f ⟨hf3, hf4, hf5, hf6, hf7⟩
  refine (JC.norm (i := 3) hf3 (JC.norm (i := 4) hf4 (JC.norm (i := 5) hf5 (JC.norm (i := 6) hf6 (JC.norm (i := 7) hf7 ?_)))))
  refine JC.seq ?_
  refine JC.seq ?_
  refine JC.region (by rfl) ?_
  intro hQ
  refine JL.move .none rfl ?_
  refine JL.bin rfl rfl rfl .none rfl ?_
  refine JL.done hQ ?_
  refine JQ.go ?_
  rcases ite_some hF with ⟨hc13, hF⟩ | ⟨hc13, hF⟩
  · refine JC.cond_t (b := (y6.2 != 0)) rfl hc13 ?_
    refine JC.seq ?_
    refine JC.region (by rfl) ?_
    intro hQ
    refine JL.move .none rfl ?_
    refine JL.assign .none rfl ?_
    refine JL.assign .none rfl ?_
    refine JL.done hQ ?_
    refine JQ.go ?_
    refine JC.ret ?_
    refine JQ.ret_then ?_
    obtain rfl := Option.some.inj hF
    exact JQ.outH rfl (.tmp (.tmp .nil)) ⟨(.slice none 0 0), rfl, SL.nil⟩
  · refine JC.cond_f (b := (y6.2 != 0)) rfl hc13 ?_
    refine JC.skip ?_
    refine JQ.go ?_
    refine JC.seq ?_
    refine JC.region (by rfl) ?_
    intro hQ
    refine JL.assign .none rfl ?_
    refine JL.done hQ ?_
    refine JQ.go ?_
    refine JC.seq ?_
    refine JC.seq ?_
    refine JC.region (by rfl) ?_
    intro hQ
    refine JL.move .none rfl ?_
    refine JL.done hQ ?_
    refine JQ.go ?_
    refine JC.freezeC 0 (l := [.int .i64 day]) rfl ?_
    intro H51 hs51 hc52
    obtain ⟨w88, hw88, hF⟩ := bind_some hF
    obtain ⟨b89, o90, cs91, hv92, hc93, ⟨w88_v2, w88_v4, w88_v7, rfl, hw88_2, hw88_4, hw88_7⟩⟩ := (show PT H51 R_rains_weather y6a_v0 (some w88) by rw [← hw88]; exact (PT.mono R_rains_weather_mono hs51 hy6a_0))
    subst hv92
    refine JC.newNil (e := 3) (sz := 1) ?_
    obtain ⟨r197, hlr197, hKr197⟩ := bind_some hF
    refine JC.join (fun (out_195 : List Int) H196 f bs gs => ∃ (vout_195 : Value) (xsout_195 : List Value), f 8 = vout_195 ∧ bs = [] ∧ gs = [⟨vout_195, 3, 1, out_195.length, xsout_195⟩] ∧ CH H196 1 RInt xsout_195 out_195 ∧ HSub H51 H196 ∧ out_195 = r197) ?_ ?_
    · skip
      refine JC.block ?_
      refine JC.mask [false] [true] ?_
      refine JC.loop hlr197 (fun (x : Int × List Int) H246 f bs gs => match x with | (x_244, out_245) => ∃ (vout_245 : Value) (xsout_245 : List Value), f 3 = .pointer (some ⟨b2, 0, none⟩) ∧ f 6 = .pointer (some ⟨b89, o90, none⟩) ∧ f 8 = vout_245 ∧ f 23 = .int .i64 x_244 ∧ bs = [] ∧ gs = [⟨vout_245, 3, 1, out_245.length, xsout_245⟩] ∧ CH H246 1 RInt xsout_245 out_245 ∧ HSub H51 H246) ⟨(.slice none 0 0), [], rfl, rfl, rfl, rfl, rfl, rfl, CH.nil, (HSub.refl _)⟩ ?_
      rintro ⟨x_244, out_245⟩ x248 H246 f bs gs ⟨vout_245, xsout_245, hf3, hf6, hf8, hf23, rfl, rfl, hout_245, hs246⟩ hF hr247
      rw [F_rains_Levels_s1] at hF
      refine (JC.norm (i := 3) hf3 (JC.norm (i := 6) hf6 (JC.norm (i := 8) hf8 (JC.norm (i := 23) hf23 ?_))))
      refine JC.seq ?_
      refine JC.region (by rfl) ?_
      intro hQ
      refine JL.bin rfl rfl rfl .none rfl ?_
      refine JL.done hQ ?_
      refine JQ.go ?_
      refine JC.seq ?_
      rcases ite_some hF with ⟨hc249, hF⟩ | ⟨hc249, hF⟩
      · refine JC.cond_t (b := decide (x_244 < 4)) rfl hc249 ?_
        refine JC.skip ?_
        refine JQ.go ?_
        refine JC.seq ?_
        refine JC.block ?_
        refine JC.seq ?_
        refine JC.region (by rfl) ?_
        intro hQ
        refine JL.move .none rfl ?_
        refine JL.alloc ze_3 .none rfl ?_
        intro b250
        refine JL.storeOwn 0 (cs := [.int .i64 x_244]) az_3 rfl rfl rfl (one_cons rfl one_nil) rfl rfl .none ?_
        refine JL.done hQ ?_
        refine JQ.go ?_
        refine JC.seq ?_
        refine JC.region (by rfl) ?_
        intro hQ
        refine JL.move .none rfl ?_
        refine JL.nilCheck rfl .none rfl ?_
        refine JL.fieldAddr fo_89_1 rfl .none rfl ?_
        refine JL.loadH 7 az_72 rfl (Cells.mono hs246 hc93) rfl .none rfl ?_
        refine JL.makeFunc .none rfl ?_
        refine JL.freezeC 0 (l := [.int .i64 x_244]) rfl ?_
        intro H251 hs251 hc252
        obtain ⟨y253, hy253, hF⟩ := bind_some hF
        refine JL.callS (c_slices_ContainsFunc_____int___int_ n H251 w88.truths w88_v7 (SL.mono (RSl.mono RInt.mono) (HSub.trans hs246 hs251) hw88_7) (fun a0_ => F_rains_Levels_1 n a0_ day x_244) 63 [.pointer (some ⟨b2, 0, none⟩), .pointer (some ⟨b250, 0, none⟩)] en_63 (fun H' hs' a0_ a0__v0 ha0__0 y' hy' => c_rains_Levels_1 n H' a0_ a0__v0 ha0__0 day b2 (Cells.mono hs' (Cells.mono (HSub.trans hs246 hs251) hc52)) x_244 b250 (Cells.mono hs' hc252) y' hy') y253 hy253) rfl en_62 .none rfl ?_
        refine JL.done hQ ?_
        refine JQ.go ?_
        obtain ⟨r262, hlr262, hKr262⟩ := bind_some hF
        refine JC.join (fun (out_260 : List Int) H261 f bs gs => ∃ (vout_260 : Value) (xsout_260 : List Value), f 3 = .pointer (some ⟨b2, 0, none⟩) ∧ f 6 = .pointer (some ⟨b89, o90, none⟩) ∧ f 8 = vout_260 ∧ f 23 = .int .i64 x_244 ∧ bs = [] ∧ gs = [⟨vout_260, 3, 1, out_260.length, xsout_260⟩] ∧ CH H261 1 RInt xsout_260 out_260 ∧ HSub H251 H261 ∧ out_260 = r262) ?_ ?_
        · have hF := hlr262
          rcases ite_some hF with ⟨hc263, hF⟩ | ⟨hc263, hF⟩
          · refine JC.cond_t (b := y253) rfl hc263 ?_
            refine JC.region (by rfl) ?_
            intro hQ
            refine JL.move .none rfl ?_
            refine JL.loadH 0 az_3 rfl hc252 rfl .none rfl ?_
            refine JL.buildSlice (e := 3) (l := [.int .i64 x_244]) (by kernel_rfl) .none rfl ?_
            intro b264
            obtain ⟨l265, hl265, hF⟩ := bind_some hF
            refine JL.appO (R := RInt) 0 0 (l := out_245) (m := [x_244]) ap_26 rfl ⟨rfl, rfl⟩ rfl (CH.mono RInt.mono hs251 hout_245) rfl rfl rfl (CH.cons (cs := [.int .i64 x_244]) rfl rfl CH.nil) rfl (one_cons rfl one_nil) hl265 .none rfl ?_
            intro v266 xs267 hch268
            refine JL.assign .none rfl ?_
            refine JL.done hQ ?_
            obtain rfl := Option.some.inj hF
            refine JQ.mask [false] [true] ?_
            exact JQ.join l265 ⟨v266, xs267, rfl, rfl, rfl, rfl, rfl, rfl, hch268, (HSub.refl _), rfl⟩
          · refine JC.cond_f (b := y253) rfl hc263 ?_
            refine JC.skip ?_
            obtain rfl := Option.some.inj hF
            exact JQ.join out_245 ⟨vout_245, xsout_245, rfl, rfl, rfl, rfl, rfl, rfl, (CH.mono RInt.mono hs251 hout_245), (HSub.refl _), rfl⟩
        · rintro out_260 H261 f bs gs ⟨vout_260, xsout_260, hf3, hf6, hf8, hf23, rfl, rfl, hout_260, hs261, rfl⟩
          have hF := hKr262
          try dsimp only at hF
          refine (JQ.norm (i := 3) hf3 (JQ.norm (i := 6) hf6 (JQ.norm (i := 8) hf8 (JQ.norm (i := 23) hf23 ?_))))
          refine JQ.normal_block ?_
          refine JQ.go ?_
          refine JC.region (by rfl) ?_
          intro hQ
          refine JL.bin rfl rfl rfl .none rfl ?_
          refine JL.move .none rfl ?_
          refine JL.done hQ ?_
          obtain rfl := Option.some.inj hF
          exact JQ.next rfl ⟨vout_260, xsout_260, rfl, rfl, rfl, rfl, rfl, rfl, hout_260, (HSub.trans hs246 (HSub.trans hs251 hs261))⟩
      · refine JC.cond_f (b := decide (x_244 < 4)) rfl hc249 ?_
        refine JC.exit ?_
        refine JQ.exit_then ?_
        refine JQ.exit_then ?_
        refine JQ.exit_block ?_
        obtain rfl := Option.some.inj hF
        have ehr247 := hr247 _ rfl
        subst ehr247
        exact JQ.join out_245 ⟨vout_245, xsout_245, rfl, rfl, rfl, hout_245, hs246, rfl⟩
    · rintro out_195 H196 f bs gs ⟨vout_195, xsout_195, hf8, rfl, rfl, hout_195, hs196, rfl⟩
      have hF := hKr197
      try dsimp only at hF
      refine (JQ.norm (i := 8) hf8 ?_)
      refine JQ.go ?_
      refine JC.seq ?_
      refine JC.region (by rfl) ?_
      intro hQ
      refine JL.move .none rfl ?_
      refine JL.assign .none rfl ?_
      refine JL.assign .none rfl ?_
      refine JL.done hQ ?_
      refine JQ.go ?_
      refine JC.ret ?_
      refine JQ.freezeG 0 (R := RInt) rfl RInt.mono hout_195 rfl ?_
      intro H269 hs269 hg270
      obtain rfl := Option.some.inj hF
      exact JQ.outH rfl (.tmp (.tmp .nil)) ⟨vout_195, rfl, hg270⟩

-- 43 ferrule/ferrulelaw11.sameInts
def F_law11_sameInts_s1 (n : Nat) (a : List Int) (b : List Int) : Int → Option (Int ⊕ (Bool ⊕ Unit))
  | i_126 => if decide (i_126 < (a.length : Int)) = true then ((geti a i_126).bind fun y141 => (geti b i_126).bind fun y146 => if (y141 != y146) = true then (some (Sum.inr (Sum.inl false))) else (some (Sum.inl (w64 (i_126 + 1))))) else (some (Sum.inr (Sum.inr ())))
def F_law11_sameInts (n : Nat) (a : List Int) (b : List Int) : Option Bool :=
  if ((a.length : Int) != (b.length : Int)) = true then (some false) else ((loopO n (F_law11_sameInts_s1 n a b) 0).bind fun r77 => match r77 with | .inl o => some o | .inr _ => some true)
set_option maxRecDepth 100000 in
set_option maxHeartbeats 40000000 in
theorem c_law11_sameInts (n : Nat) (H : Hp) (a : List Int) (a_v0 : Value) (ha_0 : SL H 1 RInt a_v0 a) (b : List Int) (b_v0 : Value) (hb_0 : SL H 1 RInt b_v0 b) (y : Bool) (hF : F_law11_sameInts n a b = some y) : SC Try.prog 43 [a_v0, b_v0] (.bool y) H := by
  rw [F_law11_sameInts] at hF
  refine SC.of (N := 26) Try.func43 rfl rfl rfl fun w => ?_
  refine JC.seq ?_
  refine JC.region (by rfl) ?_
  intro hQ
  refine JL.assign .none rfl ?_
  refine JL.done hQ ?_
  refine JQ.go ?_
  refine JC.seq ?_
  refine JC.seq ?_
  refine JC.region (by rfl) ?_
  intro hQ
  refine JL.move .none rfl ?_
  refine JL.lenSL (R := RInt) ul_26 ha_0 .none rfl ?_
  refine JL.move .none rfl ?_
  refine JL.lenSL (R := RInt) ul_26 hb_0 .none rfl ?_
  refine JL.bin rfl rfl rfl .none rfl ?_
  refine JL.done hQ ?_
  refine JQ.go ?_
  rcases ite_some hF with ⟨hc1, hF⟩ | ⟨hc1, hF⟩
  · refine JC.cond_t (b := ((a.length : Int) != (b.length : Int))) rfl hc1 ?_
    refine JC.seq ?_
    refine JC.region (by rfl) ?_
    intro hQ
    refine JL.assign .none rfl ?_
    refine JL.done hQ ?_
    refine JQ.go ?_
    refine JC.ret ?_
    refine JQ.ret_then ?_
    obtain rfl := Option.some.inj hF
    exact JQ.outS rfl (.tmp .nil) rfl
  · refine JC.cond_f (b := ((a.length : Int) != (b.length : Int))) rfl hc1 ?_
    refine JC.skip ?_
    refine JQ.go ?_
    refine JC.seq ?_
    refine JC.seq ?_
    refine JC.region (by rfl) ?_
    intro hQ
    refine JL.assign .none rfl ?_
    refine JL.done hQ ?_
    refine JQ.go ?_
    obtain ⟨r77, hlr77, hKr77⟩ := bind_some hF
    refine JC.join (fun (_ : Unit) H76 f bs gs => bs = [] ∧ gs = [] ∧ HSub H H76 ∧ Sum.inr () = r77) ?_ ?_
    · skip
      refine JC.block ?_
      refine JC.loop hlr77 (fun (i_126 : Int) H127 f bs gs => f 0 = a_v0 ∧ f 1 = b_v0 ∧ f 5 = .int .i64 i_126 ∧ bs = [] ∧ gs = [] ∧ HSub H H127) ⟨rfl, rfl, rfl, rfl, rfl, (HSub.refl _)⟩ ?_
      rintro i_126 x129 H127 f bs gs ⟨hf0, hf1, hf5, rfl, rfl, hs127⟩ hF hr128
      rw [F_law11_sameInts_s1] at hF
      refine (JC.norm (i := 0) hf0 (JC.norm (i := 1) hf1 (JC.norm (i := 5) hf5 ?_)))
      refine JC.seq ?_
      refine JC.seq ?_
      refine JC.region (by rfl) ?_
      intro hQ
      refine JL.move .none rfl ?_
      refine JL.move .none rfl ?_
      refine JL.lenSL (R := RInt) ul_26 (SL.mono RInt.mono hs127 ha_0) .none rfl ?_
      refine JL.bin rfl rfl rfl .none rfl ?_
      refine JL.done hQ ?_
      refine JQ.go ?_
      rcases ite_some hF with ⟨hc130, hF⟩ | ⟨hc130, hF⟩
      · refine JC.cond_t (b := decide (i_126 < (a.length : Int))) rfl hc130 ?_
        refine JC.skip ?_
        refine JQ.go ?_
        refine JC.seq ?_
        refine JC.block ?_
        refine JC.seq ?_
        refine JC.draw (by rfl) mo_ (by kernel_rfl) ?_
        intro hQ
        refine JL.move .none rfl ?_
        refine JL.move .none rfl ?_
        obtain ⟨y141, hy141, hF⟩ := bind_some hF
        refine JL.indexSL (R := RInt) sl_26 (SL.mono RInt.mono hs127 ha_0) rfl hy141 .none rfl ?_
        rintro b142 o143 cs144 hc145 - rfl
        refine JL.loadH 0 az_3 rfl hc145 rfl .none rfl ?_
        refine JL.move .none rfl ?_
        refine JL.move .none rfl ?_
        obtain ⟨y146, hy146, hF⟩ := bind_some hF
        refine JL.indexSL (R := RInt) sl_26 (SL.mono RInt.mono hs127 hb_0) rfl hy146 .none rfl ?_
        rintro b147 o148 cs149 hc150 - rfl
        refine JL.loadH 0 az_3 rfl hc150 rfl .none rfl ?_
        refine JL.bin rfl rfl rfl .none rfl ?_
        refine JL.doneQ hQ ?_
        refine JQ.go ?_
        refine JC.fresh (fun f => f 0 = a_v0 ∧ f 1 = b_v0 ∧ f 5 = .int .i64 i_126 ∧ f 25 = .bool (y141 != y146)) ⟨rfl, rfl, rfl, rfl⟩ ?_
        rintro f ⟨hf0, hf1, hf5, hf25⟩
        refine (JC.norm (i := 0) hf0 (JC.norm (i := 1) hf1 (JC.norm (i := 5) hf5 (JC.norm (i := 25) hf25 ?_))))
        rcases ite_some hF with ⟨hc151, hF⟩ | ⟨hc151, hF⟩
        · refine JC.cond_t (b := (y141 != y146)) rfl hc151 ?_
          refine JC.seq ?_
          refine JC.region (by rfl) ?_
          intro hQ
          refine JL.assign .none rfl ?_
          refine JL.done hQ ?_
          refine JQ.go ?_
          refine JC.ret ?_
          refine JQ.ret_block ?_
          refine JQ.ret_then ?_
          refine JQ.ret_then ?_
          refine JQ.ret_block ?_
          refine JQ.ret_join ?_
          refine JQ.ret_then ?_
          obtain rfl := Option.some.inj hF
          have ehr128 := hr128 _ rfl
          subst ehr128
          have hF := hKr77
          try dsimp only at hF
          obtain rfl := Option.some.inj hF
          exact JQ.outS rfl (.tmp .nil) rfl
        · refine JC.cond_f (b := (y141 != y146)) rfl hc151 ?_
          refine JC.skip ?_
          refine JQ.normal_block ?_
          refine JQ.go ?_
          refine JC.region (by rfl) ?_
          intro hQ
          refine JL.move .none rfl ?_
          refine JL.bin rfl rfl rfl .none rfl ?_
          refine JL.assign .none rfl ?_
          refine JL.done hQ ?_
          obtain rfl := Option.some.inj hF
          exact JQ.next rfl ⟨rfl, rfl, rfl, rfl, rfl, hs127⟩
      · refine JC.cond_f (b := decide (i_126 < (a.length : Int))) rfl hc130 ?_
        refine JC.exit ?_
        refine JQ.exit_then ?_
        refine JQ.exit_then ?_
        refine JQ.exit_block ?_
        obtain rfl := Option.some.inj hF
        have ehr128 := hr128 _ rfl
        subst ehr128
        exact JQ.join () ⟨rfl, rfl, hs127, rfl⟩
    · rintro _ H76 f bs gs ⟨rfl, rfl, hs76, rfl⟩
      have hF := hKr77
      try dsimp only at hF
      refine JQ.go ?_
      refine JC.seq ?_
      refine JC.region (by rfl) ?_
      intro hQ
      refine JL.assign .none rfl ?_
      refine JL.done hQ ?_
      refine JQ.go ?_
      refine JC.ret ?_
      obtain rfl := Option.some.inj hF
      exact JQ.outS rfl (.tmp .nil) rfl

end Go.Proofs.Ytooankffknoomaa
