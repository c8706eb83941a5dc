/-
  Printed by a program: functions of the translation as plain functions, and their contracts.
-/
import Derived.Test.YtooankffknoomaaGenK5
namespace Go.Proofs.Ytooankffknoomaa
open Go Go.RowKit Go.Dec
set_option linter.unusedVariables false
-- 16 ferrule/ferruleref11.Takes
def F_ref11_Takes (n : Nat) (t : Tour) (route : List Int) : Option (Span × Int) :=
  (F_ref11_IsRoute n t route).bind fun y5 => (F_ref11_known n t y5).bind fun y6 => if (y6.2 != 0) = true then (some ((Span.mk 0 0), y6.2)) else ((F_ref11_takes n t y6.1 route).bind fun y14 => some (y14, 0))
set_option maxRecDepth 100000 in
set_option maxHeartbeats 40000000 in
theorem c_ref11_Takes (n : Nat) (H : Hp) (t : Tour) (t_v2 : Value) (ht_2 : SL H 3 R_Rain t_v2 t.Rains) (t_v4 : Value) (ht_4 : SL H 2 R_Fair t_v4 t.Fairs) (route : List Int) (route_v0 : Value) (hroute_0 : SL H 1 RInt route_v0 route) (y : Span × Int) (hF : F_ref11_Takes n t route = some y) : SC Try.prog 16 [.agg [.int .i64 t.Days, .int .i64 t.Step, t_v2, .int .i64 t.Wrong, t_v4, .int .i64 t.Reach, .int .i64 t.Stock].toArray, route_v0] (.tuple [.agg [.int .i64 y.1.Low, .int .i64 y.1.High].toArray, .int .i64 y.2].toArray) H := by
  rw [F_ref11_Takes] at hF
  refine SC.of (N := 24) Try.func16 rfl rfl rfl fun w => ?_
  refine JC.seq ?_
  refine JC.region (by rfl) ?_
  intro hQ
  refine JL.box (cs := [.int .i64 t.Days, .int .i64 t.Step, t_v2, .int .i64 t.Wrong, t_v4, .int .i64 t.Reach, .int .i64 t.Stock]) rfl .none rfl ?_
  intro b1
  refine JL.alloc ze_31 .none rfl ?_
  intro b2
  refine JL.assign .none rfl ?_
  refine JL.done hQ ?_
  refine JQ.go ?_
  refine JC.seq ?_
  obtain ⟨y5, hy5, hF⟩ := bind_some hF
  obtain ⟨y6, hy6, hF⟩ := bind_some hF
  refine JC.mixed 10 10 #[false, false, false, false, false, false, false, false, false, false] [(b2, .cells [.int .i64 0, .int .i64 0].toArray 31), (b1, .cells [.int .i64 t.Days, .int .i64 t.Step, t_v2, .int .i64 t.Wrong, t_v4, .int .i64 t.Reach, .int .i64 t.Stock].toArray 25)] (by rfl) mo_ (by kernel_rfl) (by kernel_rfl) ?_
  intro hQ hE
  refine JA.take 0 (listed' := #[true, false, false, false, false, false, false, false, false, false]) hQ rfl (by kernel_rfl) (by kernel_rfl) (by kernel_rfl) (by kernel_rfl) (by kernel_rfl) hE (HSub.refl _) (.cons_cons _ (.cons_cons _ (List.nil_sublist _))) ?_
  refine JL.loadOwn 1 az_25 rfl rfl rfl .none rfl ?_
  refine JA.cont ?_
  refine JA.take 1 (listed' := #[true, true, false, false, false, false, false, false, false, false]) hQ rfl (by kernel_rfl) (by kernel_rfl) (by kernel_rfl) (by kernel_rfl) (by kernel_rfl) hE (HSub.refl _) (.cons_cons _ (.cons_cons _ (List.nil_sublist _))) ?_
  refine JL.loadOwn 1 az_25 rfl rfl rfl .none rfl ?_
  refine JA.cont ?_
  refine JA.take 2 (listed' := #[true, true, true, false, false, false, false, false, false, false]) hQ rfl (by kernel_rfl) (by kernel_rfl) (by kernel_rfl) (by kernel_rfl) (by kernel_rfl) hE (HSub.refl _) (.cons_cons _ (.cons_cons _ (List.nil_sublist _))) ?_
  refine JL.move .none rfl ?_
  refine JA.cont ?_
  refine JA.many [3] (by kernel_rfl) (by simp) (all_one ⟨_, #[true, true, true, true, false, false, false, false, false, false], rfl, (by kernel_rfl), ?_⟩)
  refine JL.callS (c_ref11_IsRoute n H t t_v2 ht_2 t_v4 ht_4 route route_v0 hroute_0 y5 hy5) rfl en_20 .none rfl ?_
  refine JA.after hE (HSub.refl _) (.cons_cons _ (.cons_cons _ (List.nil_sublist _))) ?_
  refine JA.many [4] (by kernel_rfl) (by simp) (all_one ⟨_, #[true, true, true, true, true, false, false, false, false, false], rfl, (by kernel_rfl), ?_⟩)
  refine JL.callH (c_ref11_known n H t t_v2 ht_2 t_v4 ht_4 y5 y6 hy6) rfl en_48 .none rfl ?_
  rintro H11 vv12 hs11 ⟨y6a_v0, rfl, hy6a_0⟩
  refine JA.after hE hs11 (.cons_cons _ (.cons_cons _ (List.nil_sublist _))) ?_
  refine JA.take 5 (listed' := #[true, true, true, true, true, true, false, false, false, false]) hQ rfl (by kernel_rfl) (by kernel_rfl) (by kernel_rfl) (by kernel_rfl) (by kernel_rfl) hE hs11 (.cons_cons _ (.cons_cons _ (List.nil_sublist _))) ?_
  refine JL.move .none rfl ?_
  refine JA.cont ?_
  refine JA.take 6 (listed' := #[true, true, true, true, true, true, true, false, false, false]) hQ rfl (by kernel_rfl) (by kernel_rfl) (by kernel_rfl) (by kernel_rfl) (by kernel_rfl) hE hs11 (.cons_cons _ (.cons_cons _ (List.nil_sublist _))) ?_
  refine JL.extract rfl rfl .none rfl ?_
  refine JA.cont ?_
  refine JA.take 7 (listed' := #[true, true, true, true, true, true, true, true, false, false]) hQ rfl (by kernel_rfl) (by kernel_rfl) (by kernel_rfl) (by kernel_rfl) (by kernel_rfl) hE hs11 (.cons_cons _ (.cons_cons _ (List.nil_sublist _))) ?_
  refine JL.extract rfl rfl .none rfl ?_
  refine JA.cont ?_
  refine JA.take 8 (listed' := #[true, true, true, true, true, true, true, true, true, false]) hQ rfl (by kernel_rfl) (by kernel_rfl) (by kernel_rfl) (by kernel_rfl) (by kernel_rfl) hE hs11 (.cons_cons _ (.cons_cons _ (List.nil_sublist _))) ?_
  refine JL.assign .none rfl ?_
  refine JA.cont ?_
  refine JA.take 9 (listed' := #[true, true, true, true, true, true, true, true, true, true]) hQ rfl (by kernel_rfl) (by kernel_rfl) (by kernel_rfl) (by kernel_rfl) (by kernel_rfl) hE hs11 (.cons_cons _ (.cons_cons _ (List.nil_sublist _))) ?_
  refine JL.assign .none rfl ?_
  refine JA.cont ?_
  refine JA.done hQ (by kernel_rfl) ?_
  refine JQ.go ?_
  refine JC.fresh (fun f => f 1 = route_v0 ∧ f 2 = .pointer (some ⟨b1, 0, none⟩) ∧ f 4 = .pointer (some ⟨b2, 0, none⟩) ∧ f 5 = .int .i64 0 ∧ f 6 = y6a_v0 ∧ f 7 = .int .i64 y6.2) ⟨rfl, rfl, rfl, rfl, rfl, rfl⟩ ?_
  rintro f ⟨hf1, hf2, hf4, hf5, hf6, hf7⟩
  refine (JC.norm (i := 1) hf1 (JC.norm (i := 2) hf2 (JC.norm (i := 4) hf4 (JC.norm (i := 5) hf5 (JC.norm (i := 6) hf6 (JC.norm (i := 7) hf7 ?_))))))
  refine JC.seq ?_
  refine JC.seq ?_
  refine JC.region (by rfl) ?_
  intro hQ
  refine JL.move .none rfl ?_
  refine JL.bin rfl rfl rfl .none rfl ?_
  refine JL.done hQ ?_
  refine JQ.go ?_
  rcases ite_some hF with ⟨hc13, hF⟩ | ⟨hc13, hF⟩
  · refine JC.cond_t (b := (y6.2 != 0)) rfl hc13 ?_
    refine JC.seq ?_
    refine JC.region (by rfl) ?_
    intro hQ
    refine JL.build (l := [.int .i64 0, .int .i64 0]) (by kernel_rfl) .none rfl ?_
    refine JL.move .none rfl ?_
    refine JL.storeOwn 0 (cs := [.int .i64 0, .int .i64 0]) az_31 rfl rfl rfl (one_cons rfl (one_cons rfl one_nil)) rfl rfl .none ?_
    refine JL.assign .none rfl ?_
    refine JL.done hQ ?_
    refine JQ.go ?_
    refine JC.ret ?_
    refine JQ.ret_then ?_
    obtain rfl := Option.some.inj hF
    exact JQ.outS rfl (.cell 0 az_31 rfl rfl rfl (.tmp .nil)) rfl
  · refine JC.cond_f (b := (y6.2 != 0)) rfl hc13 ?_
    refine JC.skip ?_
    refine JQ.go ?_
    refine JC.seq ?_
    refine JC.region (by rfl) ?_
    intro hQ
    refine JL.loadOwn 1 az_25 rfl rfl rfl .none rfl ?_
    refine JL.move .none rfl ?_
    refine JL.move .none rfl ?_
    obtain ⟨y14, hy14, hF⟩ := bind_some hF
    refine JL.callS (c_ref11_takes n H11 t t_v2 (SL.mono R_Rain_mono hs11 ht_2) t_v4 (SL.mono R_Fair_mono hs11 ht_4) y6.1 y6a_v0 hy6a_0 route route_v0 (SL.mono RInt.mono hs11 hroute_0) y14 hy14) rfl en_49 .none rfl ?_
    refine JL.storeOwn 0 (cs := [.int .i64 y14.Low, .int .i64 y14.High]) az_31 rfl rfl rfl (one_cons rfl (one_cons rfl one_nil)) rfl rfl .none ?_
    refine JL.assign .none rfl ?_
    refine JL.done hQ ?_
    refine JQ.go ?_
    refine JC.ret ?_
    obtain rfl := Option.some.inj hF
    exact JQ.outS rfl (.cell 0 az_31 rfl rfl rfl (.tmp .nil)) rfl

-- 50 (ferrule/rains.sale).rest
def F_rains_sale_rest (n : Nat) (x_ : rains_sale) : Option Int :=
  some x_.left
set_option maxRecDepth 100000 in
set_option maxHeartbeats 40000000 in
theorem c_rains_sale_rest (n : Nat) (H : Hp) (x_ : rains_sale) (y : Int) (hF : F_rains_sale_rest n x_ = some y) : SC Try.prog 50 [.agg [.int .i64 x_.takes, .int .i64 x_.left].toArray] (.int .i64 y) H := by
  rw [F_rains_sale_rest] at hF
  refine SC.of (N := 5) Try.func50 rfl rfl rfl fun w => ?_
  refine JC.seq ?_
  refine JC.region (by rfl) ?_
  intro hQ
  refine JL.box (cs := [.int .i64 x_.takes, .int .i64 x_.left]) rfl .none rfl ?_
  intro b1
  refine JL.assign .none rfl ?_
  refine JL.done hQ ?_
  refine JQ.go ?_
  refine JC.seq ?_
  refine JC.region (by rfl) ?_
  intro hQ
  refine JL.fieldAddr fo_71_1 rfl .none rfl ?_
  refine JL.loadOwn 0 az_3 rfl rfl rfl .none rfl ?_
  refine JL.assign .none rfl ?_
  refine JL.done hQ ?_
  refine JQ.go ?_
  refine JC.ret ?_
  obtain rfl := Option.some.inj hF
  exact JQ.outS rfl (.tmp .nil) rfl

-- 17 ferrule/rains.Left
def F_rains_Left (n : Nat) (t : Tour) (route : List Int) : Option (Span × Int) :=
  (F_rains_ends n t route (fun a0_ => F_rains_sale_rest n a0_)).bind fun y3 => some (y3.1, y3.2)
set_option maxRecDepth 100000 in
set_option maxHeartbeats 40000000 in
theorem c_rains_Left (n : Nat) (H : Hp) (t : Tour) (t_v2 : Value) (ht_2 : SL H 3 R_Rain t_v2 t.Rains) (t_v4 : Value) (ht_4 : SL H 2 R_Fair t_v4 t.Fairs) (route : List Int) (route_v0 : Value) (hroute_0 : SL H 1 RInt route_v0 route) (y : Span × Int) (hF : F_rains_Left n t route = some y) : SC Try.prog 17 [.agg [.int .i64 t.Days, .int .i64 t.Step, t_v2, .int .i64 t.Wrong, t_v4, .int .i64 t.Reach, .int .i64 t.Stock].toArray, route_v0] (.tuple [.agg [.int .i64 y.1.Low, .int .i64 y.1.High].toArray, .int .i64 y.2].toArray) H := by
  rw [F_rains_Left] at hF
  refine SC.of (N := 11) Try.func17 rfl rfl rfl fun w => ?_
  refine JC.seq ?_
  refine JC.region (by rfl) ?_
  intro hQ
  refine JL.box (cs := [.int .i64 t.Days, .int .i64 t.Step, t_v2, .int .i64 t.Wrong, t_v4, .int .i64 t.Reach, .int .i64 t.Stock]) rfl .none rfl ?_
  intro b1
  refine JL.alloc ze_31 .none rfl ?_
  intro b2
  refine JL.assign .none rfl ?_
  refine JL.done hQ ?_
  refine JQ.go ?_
  refine JC.seq ?_
  refine JC.region (by rfl) ?_
  intro hQ
  refine JL.loadOwn 1 az_25 rfl rfl rfl .none rfl ?_
  refine JL.move .none rfl ?_
  obtain ⟨y3, hy3, hF⟩ := bind_some hF
  refine JL.callS (c_rains_ends n H t t_v2 ht_2 t_v4 ht_4 route route_v0 hroute_0 (fun a0_ => F_rains_sale_rest n a0_) 50 [] en_50 (fun H' hs' a0_ y' hy' => c_rains_sale_rest n H' a0_ y' hy') y3 hy3) rfl en_46 .none rfl ?_
  refine JL.extract rfl rfl .none rfl ?_
  refine JL.extract rfl rfl .none rfl ?_
  refine JL.storeOwn 0 (cs := [.int .i64 y3.1.Low, .int .i64 y3.1.High]) az_31 rfl rfl rfl (one_cons rfl (one_cons rfl one_nil)) rfl rfl .none ?_
  refine JL.assign .none rfl ?_
  refine JL.done hQ ?_
  refine JQ.go ?_
  refine JC.ret ?_
  obtain rfl := Option.some.inj hF
  exact JQ.outS rfl (.cell 0 az_31 rfl rfl rfl (.tmp .nil)) rfl

-- 18 ferrule/ferruleref11.Left
def F_ref11_Left_s1 (n : Nat) (t : Tour) (route : List Int) (y6 : (List (List Int)) × Int) : Int × Int × Int → Option ((Int × Int × Int) ⊕ (Int × Int))
  | (i_110, z_111, z_112) => if decide (i_110 < (y6.1.length : Int)) = true then ((geti y6.1 i_110).bind fun y123 => (F_ref11_Trade n t route y123).bind fun y128 => (F_ref11_wider n (Span.mk z_111 z_112) y128.2 (i_110 == 0)).bind fun y129 => some (Sum.inl ((w64 (i_110 + 1)), y129.Low, y129.High))) else (some (Sum.inr (z_111, z_112)))
def F_ref11_Left (n : Nat) (t : Tour) (route : List Int) : Option (Span × Int) :=
  (F_ref11_IsRoute n t route).bind fun y5 => (F_ref11_known n t y5).bind fun y6 => (loopO n (F_ref11_Left_s1 n t route y6) (0, 0, 0)).bind fun r73 => match r73 with | (z_70, z_71) => some ((Span.mk z_70 z_71), y6.2)
set_option maxRecDepth 100000 in
set_option maxHeartbeats 40000000 in
theorem c_ref11_Left (n : Nat) (H : Hp) (t : Tour) (t_v2 : Value) (ht_2 : SL H 3 R_Rain t_v2 t.Rains) (t_v4 : Value) (ht_4 : SL H 2 R_Fair t_v4 t.Fairs) (route : List Int) (route_v0 : Value) (hroute_0 : SL H 1 RInt route_v0 route) (y : Span × Int) (hF : F_ref11_Left n t route = some y) : SC Try.prog 18 [.agg [.int .i64 t.Days, .int .i64 t.Step, t_v2, .int .i64 t.Wrong, t_v4, .int .i64 t.Reach, .int .i64 t.Stock].toArray, route_v0] (.tuple [.agg [.int .i64 y.1.Low, .int .i64 y.1.High].toArray, .int .i64 y.2].toArray) H := by
  rw [F_ref11_Left] at hF
  refine SC.of (N := 43) Try.func18 rfl rfl rfl fun w => ?_
  refine JC.seq ?_
  refine JC.region (by rfl) ?_
  intro hQ
  refine JL.box (cs := [.int .i64 t.Days, .int .i64 t.Step, t_v2, .int .i64 t.Wrong, t_v4, .int .i64 t.Reach, .int .i64 t.Stock]) rfl .none rfl ?_
  intro b1
  refine JL.alloc ze_31 .none rfl ?_
  intro b2
  refine JL.assign .none rfl ?_
  refine JL.done hQ ?_
  refine JQ.go ?_
  refine JC.seq ?_
  obtain ⟨y5, hy5, hF⟩ := bind_some hF
  obtain ⟨y6, hy6, hF⟩ := bind_some hF
  refine JC.mixed 10 10 #[false, false, false, false, false, false, false, false, false, false] [(b2, .cells [.int .i64 0, .int .i64 0].toArray 31), (b1, .cells [.int .i64 t.Days, .int .i64 t.Step, t_v2, .int .i64 t.Wrong, t_v4, .int .i64 t.Reach, .int .i64 t.Stock].toArray 25)] (by rfl) mo_ (by kernel_rfl) (by kernel_rfl) ?_
  intro hQ hE
  refine JA.take 0 (listed' := #[true, false, false, false, false, false, false, false, false, false]) hQ rfl (by kernel_rfl) (by kernel_rfl) (by kernel_rfl) (by kernel_rfl) (by kernel_rfl) hE (HSub.refl _) (.cons_cons _ (.cons_cons _ (List.nil_sublist _))) ?_
  refine JL.loadOwn 1 az_25 rfl rfl rfl .none rfl ?_
  refine JA.cont ?_
  refine JA.take 1 (listed' := #[true, true, false, false, false, false, false, false, false, false]) hQ rfl (by kernel_rfl) (by kernel_rfl) (by kernel_rfl) (by kernel_rfl) (by kernel_rfl) hE (HSub.refl _) (.cons_cons _ (.cons_cons _ (List.nil_sublist _))) ?_
  refine JL.loadOwn 1 az_25 rfl rfl rfl .none rfl ?_
  refine JA.cont ?_
  refine JA.take 2 (listed' := #[true, true, true, false, false, false, false, false, false, false]) hQ rfl (by kernel_rfl) (by kernel_rfl) (by kernel_rfl) (by kernel_rfl) (by kernel_rfl) hE (HSub.refl _) (.cons_cons _ (.cons_cons _ (List.nil_sublist _))) ?_
  refine JL.move .none rfl ?_
  refine JA.cont ?_
  refine JA.many [3] (by kernel_rfl) (by simp) (all_one ⟨_, #[true, true, true, true, false, false, false, false, false, false], rfl, (by kernel_rfl), ?_⟩)
  refine JL.callS (c_ref11_IsRoute n H t t_v2 ht_2 t_v4 ht_4 route route_v0 hroute_0 y5 hy5) rfl en_20 .none rfl ?_
  refine JA.after hE (HSub.refl _) (.cons_cons _ (.cons_cons _ (List.nil_sublist _))) ?_
  refine JA.many [4] (by kernel_rfl) (by simp) (all_one ⟨_, #[true, true, true, true, true, false, false, false, false, false], rfl, (by kernel_rfl), ?_⟩)
  refine JL.callH (c_ref11_known n H t t_v2 ht_2 t_v4 ht_4 y5 y6 hy6) rfl en_48 .none rfl ?_
  rintro H11 vv12 hs11 ⟨y6a_v0, rfl, hy6a_0⟩
  refine JA.after hE hs11 (.cons_cons _ (.cons_cons _ (List.nil_sublist _))) ?_
  refine JA.take 5 (listed' := #[true, true, true, true, true, true, false, false, false, false]) hQ rfl (by kernel_rfl) (by kernel_rfl) (by kernel_rfl) (by kernel_rfl) (by kernel_rfl) hE hs11 (.cons_cons _ (.cons_cons _ (List.nil_sublist _))) ?_
  refine JL.move .none rfl ?_
  refine JA.cont ?_
  refine JA.take 6 (listed' := #[true, true, true, true, true, true, true, false, false, false]) hQ rfl (by kernel_rfl) (by kernel_rfl) (by kernel_rfl) (by kernel_rfl) (by kernel_rfl) hE hs11 (.cons_cons _ (.cons_cons _ (List.nil_sublist _))) ?_
  refine JL.extract rfl rfl .none rfl ?_
  refine JA.cont ?_
  refine JA.take 7 (listed' := #[true, true, true, true, true, true, true, true, false, false]) hQ rfl (by kernel_rfl) (by kernel_rfl) (by kernel_rfl) (by kernel_rfl) (by kernel_rfl) hE hs11 (.cons_cons _ (.cons_cons _ (List.nil_sublist _))) ?_
  refine JL.extract rfl rfl .none rfl ?_
  refine JA.cont ?_
  refine JA.take 8 (listed' := #[true, true, true, true, true, true, true, true, true, false]) hQ rfl (by kernel_rfl) (by kernel_rfl) (by kernel_rfl) (by kernel_rfl) (by kernel_rfl) hE hs11 (.cons_cons _ (.cons_cons _ (List.nil_sublist _))) ?_
  refine JL.assign .none rfl ?_
  refine JA.cont ?_
  refine JA.take 9 (listed' := #[true, true, true, true, true, true, true, true, true, true]) hQ rfl (by kernel_rfl) (by kernel_rfl) (by kernel_rfl) (by kernel_rfl) (by kernel_rfl) hE hs11 (.cons_cons _ (.cons_cons _ (List.nil_sublist _))) ?_
  refine JL.assign .none rfl ?_
  refine JA.cont ?_
  refine JA.done hQ (by kernel_rfl) ?_
  refine JQ.go ?_
  refine JC.fresh (fun f => f 1 = route_v0 ∧ f 2 = .pointer (some ⟨b1, 0, none⟩) ∧ f 4 = .pointer (some ⟨b2, 0, none⟩) ∧ f 5 = .int .i64 0 ∧ f 6 = y6a_v0 ∧ f 7 = .int .i64 y6.2) ⟨rfl, rfl, rfl, rfl, rfl, rfl⟩ ?_
  rintro f ⟨hf1, hf2, hf4, hf5, hf6, hf7⟩
  refine (JC.norm (i := 1) hf1 (JC.norm (i := 2) hf2 (JC.norm (i := 4) hf4 (JC.norm (i := 5) hf5 (JC.norm (i := 6) hf6 (JC.norm (i := 7) hf7 ?_))))))
  refine JC.seq ?_
  refine JC.region (by rfl) ?_
  intro hQ
  refine JL.alloc ze_31 .none rfl ?_
  intro b13
  refine JL.done hQ ?_
  refine JQ.go ?_
  refine JC.seq ?_
  refine JC.seq ?_
  refine JC.region (by rfl) ?_
  intro hQ
  refine JL.assign .none rfl ?_
  refine JL.done hQ ?_
  refine JQ.go ?_
  obtain ⟨r73, hlr73, hKr73⟩ := bind_some hF
  refine JC.join (fun (x : Int × Int) H72 f bs gs => match x with | (z_70, z_71) => f 4 = .pointer (some ⟨b2, 0, none⟩) ∧ f 7 = .int .i64 y6.2 ∧ f 8 = .pointer (some ⟨b13, 0, none⟩) ∧ bs = [(b13, .cells [.int .i64 z_70, .int .i64 z_71].toArray 31), (b2, .cells [.int .i64 0, .int .i64 0].toArray 31)] ∧ gs = [] ∧ HSub H11 H72 ∧ (z_70, z_71) = r73) ?_ ?_
  · skip
    refine JC.block ?_
    refine JC.loop hlr73 (fun (x : Int × Int × Int) H113 f bs gs => match x with | (i_110, z_111, z_112) => f 1 = route_v0 ∧ f 2 = .pointer (some ⟨b1, 0, none⟩) ∧ f 4 = .pointer (some ⟨b2, 0, none⟩) ∧ f 6 = y6a_v0 ∧ f 7 = .int .i64 y6.2 ∧ f 8 = .pointer (some ⟨b13, 0, none⟩) ∧ f 9 = .int .i64 i_110 ∧ bs = [(b13, .cells [.int .i64 z_111, .int .i64 z_112].toArray 31), (b2, .cells [.int .i64 0, .int .i64 0].toArray 31), (b1, .cells [.int .i64 t.Days, .int .i64 t.Step, t_v2, .int .i64 t.Wrong, t_v4, .int .i64 t.Reach, .int .i64 t.Stock].toArray 25)] ∧ gs = [] ∧ HSub H11 H113) ⟨rfl, rfl, rfl, rfl, rfl, rfl, rfl, rfl, rfl, (HSub.refl _)⟩ ?_
    rintro ⟨i_110, z_111, z_112⟩ x115 H113 f bs gs ⟨hf1, hf2, hf4, hf6, hf7, hf8, hf9, rfl, rfl, hs113⟩ hF hr114
    rw [F_ref11_Left_s1] at hF
    refine (JC.norm (i := 1) hf1 (JC.norm (i := 2) hf2 (JC.norm (i := 4) hf4 (JC.norm (i := 6) hf6 (JC.norm (i := 7) hf7 (JC.norm (i := 8) hf8 (JC.norm (i := 9) hf9 ?_)))))))
    refine JC.seq ?_
    refine JC.seq ?_
    refine JC.region (by rfl) ?_
    intro hQ
    refine JL.move .none rfl ?_
    refine JL.move .none rfl ?_
    refine JL.lenSL (R := (RSl 1 RInt)) ul_72 (SL.mono (RSl.mono RInt.mono) hs113 hy6a_0) .none rfl ?_
    refine JL.bin rfl rfl rfl .none rfl ?_
    refine JL.done hQ ?_
    refine JQ.go ?_
    rcases ite_some hF with ⟨hc116, hF⟩ | ⟨hc116, hF⟩
    · refine JC.cond_t (b := decide (i_110 < (y6.1.length : Int))) rfl hc116 ?_
      refine JC.skip ?_
      refine JQ.go ?_
      refine JC.seq ?_
      refine JC.block ?_
      refine JC.seq ?_
      refine JC.draw (by rfl) mo_ (by kernel_rfl) ?_
      intro hQ
      refine JL.loadOwn 2 az_25 rfl rfl rfl .none rfl ?_
      refine JL.move .none rfl ?_
      refine JL.move .none rfl ?_
      refine JL.move .none rfl ?_
      obtain ⟨y123, hy123, hF⟩ := bind_some hF
      refine JL.indexSL (R := (RSl 1 RInt)) sl_72 (SL.mono (RSl.mono RInt.mono) hs113 hy6a_0) rfl hy123 .none rfl ?_
      rintro b124 o125 cs126 hc127 - ⟨y123_v0, rfl, hy123_0⟩
      refine JL.loadH 0 az_26 rfl hc127 rfl .none rfl ?_
      obtain ⟨y128, hy128, hF⟩ := bind_some hF
      refine JL.callS (c_ref11_Trade n H113 t t_v2 (SL.mono R_Rain_mono (HSub.trans hs11 hs113) ht_2) t_v4 (SL.mono R_Fair_mono (HSub.trans hs11 hs113) ht_4) route route_v0 (SL.mono RInt.mono (HSub.trans hs11 hs113) hroute_0) y123 y123_v0 hy123_0 y128 hy128) rfl en_32 .none rfl ?_
      refine JL.move .none rfl ?_
      refine JL.extract rfl rfl .none rfl ?_
      refine JL.extract rfl rfl .none rfl ?_
      refine JL.assign .none rfl ?_
      refine JL.assign .none rfl ?_
      refine JL.doneQ hQ ?_
      refine JQ.go ?_
      refine JC.fresh (fun f => f 1 = route_v0 ∧ f 2 = .pointer (some ⟨b1, 0, none⟩) ∧ f 4 = .pointer (some ⟨b2, 0, none⟩) ∧ f 6 = y6a_v0 ∧ f 7 = .int .i64 y6.2 ∧ f 8 = .pointer (some ⟨b13, 0, none⟩) ∧ f 9 = .int .i64 i_110 ∧ f 11 = .int .i64 y128.2) ⟨rfl, rfl, rfl, rfl, rfl, rfl, rfl, rfl⟩ ?_
      rintro f ⟨hf1, hf2, hf4, hf6, hf7, hf8, hf9, hf11⟩
      refine (JC.norm (i := 1) hf1 (JC.norm (i := 2) hf2 (JC.norm (i := 4) hf4 (JC.norm (i := 6) hf6 (JC.norm (i := 7) hf7 (JC.norm (i := 8) hf8 (JC.norm (i := 9) hf9 (JC.norm (i := 11) hf11 ?_))))))))
      refine JC.region (by rfl) ?_
      intro hQ
      refine JL.loadOwn 0 az_31 rfl rfl rfl .none rfl ?_
      refine JL.move .none rfl ?_
      refine JL.move .none rfl ?_
      refine JL.bin rfl rfl rfl .none rfl ?_
      obtain ⟨y129, hy129, hF⟩ := bind_some hF
      refine JL.callS (c_ref11_wider n H113 (Span.mk z_111 z_112) y128.2 (i_110 == 0) y129 hy129) rfl en_51 .none rfl ?_
      refine JL.storeOwn 0 (cs := [.int .i64 y129.Low, .int .i64 y129.High]) az_31 rfl rfl rfl (one_cons rfl (one_cons rfl one_nil)) rfl rfl .none ?_
      refine JL.done hQ ?_
      refine JQ.normal_block ?_
      refine JQ.go ?_
      refine JC.region (by rfl) ?_
      intro hQ
      refine JL.move .none rfl ?_
      refine JL.bin rfl rfl rfl .none rfl ?_
      refine JL.assign .none rfl ?_
      refine JL.done hQ ?_
      obtain rfl := Option.some.inj hF
      exact JQ.next rfl ⟨rfl, rfl, rfl, rfl, rfl, rfl, rfl, rfl, rfl, hs113⟩
    · refine JC.cond_f (b := decide (i_110 < (y6.1.length : Int))) rfl hc116 ?_
      refine JC.exit ?_
      refine JQ.exit_then ?_
      refine JQ.exit_then ?_
      refine JQ.exit_block ?_
      obtain rfl := Option.some.inj hF
      have ehr114 := hr114 _ rfl
      subst ehr114
      refine JQ.mask [true, true, false] [] ?_
      exact JQ.join (z_111, z_112) ⟨rfl, rfl, rfl, rfl, rfl, hs113, rfl⟩
  · rintro ⟨z_70, z_71⟩ H72 f bs gs ⟨hf4, hf7, hf8, rfl, rfl, hs72, rfl⟩
    have hF := hKr73
    try dsimp only at hF
    refine (JQ.norm (i := 4) hf4 (JQ.norm (i := 7) hf7 (JQ.norm (i := 8) hf8 ?_)))
    refine JQ.go ?_
    refine JC.seq ?_
    refine JC.region (by rfl) ?_
    intro hQ
    refine JL.loadOwn 0 az_31 rfl rfl rfl .none rfl ?_
    refine JL.move .none rfl ?_
    refine JL.storeOwn 1 (cs := [.int .i64 z_70, .int .i64 z_71]) az_31 rfl rfl rfl (one_cons rfl (one_cons rfl one_nil)) rfl rfl .none ?_
    refine JL.assign .none rfl ?_
    refine JL.done hQ ?_
    refine JQ.go ?_
    refine JC.ret ?_
    obtain rfl := Option.some.inj hF
    exact JQ.outS rfl (.cell 1 az_31 rfl rfl rfl (.tmp .nil)) rfl

end Go.Proofs.Ytooankffknoomaa
