/-
  LaysLeast holds of every input that can be given, without a condition.
-/
import Derived.Test.YtflhjlgimihmgaaJLeLeast9
import Derived.JoinedCond
section
set_option maxRecDepth 100000
set_option maxHeartbeats 40000000
namespace Go.Proofs.Ytflhjlgimihmgaa
open Go Go.RowKit Go.Dec
set_option linter.unusedVariables false
-- 8 ferrule/ferrulelaw03.LaysLeast
def F_law03_LaysLeast (n : Nat) (s : Lap) : Option Bool :=
 (F_law03_Far n s).bind fun y2 => if y2 = true then ((F_law03_works n).bind fun y4 => some y4) else ((F_ref03_Copy n s).bind fun y5 => (F_lays_Least n y5).bind fun y9 => (F_ref03_Least n s).bind fun y10 => (F_lays_Hopes n y5).bind fun y11 => (F_ref03_Hopes n s).bind fun y12 => (F_lays_Waste n y5).bind fun y13 => (F_ref03_Waste n s).bind fun y15 => (F_lays_Matters n y5).bind fun y17 => (F_ref03_Matters n s).bind fun y20 => (F_lays_Lay n y5).bind fun y23 => (if ((((((y9.1 != y10.1) || (y9.2 != y10.2)) || (y11.1 != y12.1)) || (y11.2 != y12.2)) || (!((y13.1.Low == y15.1.Low) && (y13.1.High == y15.1.High)))) || (y13.2 != y15.2)) = true then (some true) else ((F_law03_sameInts n y17.1 y20.1).bind fun y40 => some (!y40)) : Option Bool).bind fun p37 => if (((p37 || (y17.2 != y20.2)) || (y23.2 != y10.2)) || (decide (20 < (y23.1.length : Int)))) = true then (some false) else (if (y10.2 != 0) = true then ((if ((y23.1.length : Int) == 0) = true then ((F_law03_works n).bind fun y53 => some y53) else (some false) : Option Bool).bind fun p50 => some p50) else ((F_law03_rows n s y23.1).bind fun y54 => (if (y54 == y10.1) = true then ((F_law03_works n).bind fun y59 => some y59) else (some false) : Option Bool).bind fun p56 => some p56)))
theorem c_law03_LaysLeast (n : Nat) (H : Hp) (s : Lap) (s_v2 : Value) (hs_2 : SL H 2 R_Cell s_v2 s.Faults) (s_v3 : Value) (hs_3 : SL H 2 R_Cell s_v3 s.Flaws) (s_v4 : Value) (hs_4 : SL H 1 R_Panel s_v4 s.Panels) (y : Bool) (hF : F_law03_LaysLeast n s = some y) : SC Try.prog 8 [.agg [.int .i64 s.Width, .int .i64 s.Length, s_v2, s_v3, s_v4].toArray] (.bool y) H := by
 rw [F_law03_LaysLeast] at hF
 refine SC.of (N := 137) Try.func8 rfl rfl rfl fun w => ?_
 refine JC.seq (JC.region (by rfl) ?_)
 intro hQ
 refine JL.box (cs := [.int .i64 s.Width, .int .i64 s.Length, s_v2, s_v3, s_v4]) rfl .none rfl ?_
 intro b1
 refine JL.assign .none rfl ?_
 refine JL.done hQ (JQ.go (JC.seq (JC.seq (JC.region (by rfl) ?_))))
 intro hQ
 refine JL.loadOwn 0 az_25 rfl rfl rfl .none rfl ?_
 obtain ⟨y2, hy2, hF⟩ := bind_some hF
 refine JL.callS (c_law03_Far n H s s_v2 hs_2 s_v3 hs_3 s_v4 hs_4 y2 hy2) rfl en_27 .none rfl ?_
 refine JL.done hQ (JQ.go ?_)
 rcases ite_some hF with ⟨hc3, hF⟩ | ⟨hc3, hF⟩
 ·refine JC.cond_t (b := y2) rfl hc3 ?_
  refine JC.seq (JC.region (by rfl) ?_)
  intro hQ
  obtain ⟨y4, hy4, hF⟩ := bind_some hF
  refine JL.callS (c_law03_works n H y4 hy4) rfl en_11 .none rfl ?_
  refine JL.assign .none rfl ?_
  refine JL.done hQ (JQ.go (JC.ret (JQ.ret_then ?_)))
  obtain rfl := Option.some.inj hF
  exact JQ.outS rfl (.tmp .nil) rfl
 ·refine JC.cond_f (b := y2) rfl hc3 ?_
  refine JC.skip (JQ.go (JC.seq (JC.region (by rfl) ?_)))
  intro hQ
  refine JL.loadOwn 0 az_25 rfl rfl rfl .none rfl ?_
  obtain ⟨y5, hy5, hF⟩ := bind_some hF
  refine JL.callH (c_ref03_Copy n H s s_v2 hs_2 s_v3 hs_3 s_v4 hs_4 y5 hy5) rfl en_12 .none rfl ?_
  rintro H6 vv7 hs6 ⟨y5a_v2, y5a_v3, y5a_v4, rfl, hy5a_2, hy5a_3, hy5a_4⟩
  refine JL.alloc ze_25 .none rfl ?_
  intro b8
  refine JL.storeOwn 0 (cs := [.int .i64 y5.Width, .int .i64 y5.Length, y5a_v2, y5a_v3, y5a_v4]) az_25 rfl rfl rfl (one_cons rfl (one_cons rfl (one_cons (SL.one hy5a_2) (one_cons (SL.one hy5a_3) (one_cons (SL.one hy5a_4) one_nil))))) rfl rfl .none ?_
  refine JL.done hQ (JQ.go (JC.seq (JC.region (by rfl) ?_)))
  intro hQ
  refine JL.loadOwn 0 az_25 rfl rfl rfl .none rfl ?_
  obtain ⟨y9, hy9, hF⟩ := bind_some hF
  refine JL.callS (c_lays_Least n H6 y5 y5a_v2 hy5a_2 y5a_v3 hy5a_3 y5a_v4 hy5a_4 y9 hy9) rfl en_14 .none rfl ?_
  refine JL.move .none rfl ?_
  refine JL.extract rfl rfl .none rfl ?_
  refine JL.extract rfl rfl .none rfl ?_
  refine JL.assign .none rfl ?_
  refine JL.assign .none rfl ?_
  refine JL.done hQ (JQ.go (JC.fresh (fun f => f 1 = .pointer (some ⟨b1, 0, none⟩) ∧ f 2 = .bool false ∧ f 3 = .pointer (some ⟨b8, 0, none⟩) ∧ f 4 = .int .i64 y9.1 ∧ f 5 = .int .i64 y9.2) ⟨rfl, rfl, rfl, rfl, rfl⟩ ?_))
  rintro f ⟨hf1, hf2, hf3, hf4, hf5⟩
  refine (JC.norm (i := 1) hf1 (JC.norm (i := 2) hf2 (JC.norm (i := 3) hf3 (JC.norm (i := 4) hf4 (JC.norm (i := 5) hf5 ?_)))))
  refine JC.seq (JC.region (by rfl) ?_)
  intro hQ
  refine JL.loadOwn 1 az_25 rfl rfl rfl .none rfl ?_
  obtain ⟨y10, hy10, hF⟩ := bind_some hF
  refine JL.callS (c_ref03_Least n H6 s s_v2 (SL.mono R_Cell_mono hs6 hs_2) s_v3 (SL.mono R_Cell_mono hs6 hs_3) s_v4 (SL.mono R_Panel_mono hs6 hs_4) y10 hy10) rfl en_28 .none rfl ?_
  refine JL.move .none rfl ?_
  refine JL.extract rfl rfl .none rfl ?_
  refine JL.extract rfl rfl .none rfl ?_
  refine JL.assign .none rfl ?_
  refine JL.assign .none rfl ?_
  refine JL.done hQ (JQ.go (JC.seq (JC.region (by rfl) ?_)))
  intro hQ
  refine JL.loadOwn 0 az_25 rfl rfl rfl .none rfl ?_
  obtain ⟨y11, hy11, hF⟩ := bind_some hF
  refine JL.callS (c_lays_Hopes n H6 y5 y5a_v2 hy5a_2 y5a_v3 hy5a_3 y5a_v4 hy5a_4 y11 hy11) rfl en_17 .none rfl ?_
  refine JL.move .none rfl ?_
  refine JL.extract rfl rfl .none rfl ?_
  refine JL.extract rfl rfl .none rfl ?_
  refine JL.assign .none rfl ?_
  refine JL.assign .none rfl ?_
  refine JL.done hQ (JQ.go (JC.fresh (fun f => f 1 = .pointer (some ⟨b1, 0, none⟩) ∧ f 2 = .bool false ∧ f 3 = .pointer (some ⟨b8, 0, none⟩) ∧ f 4 = .int .i64 y9.1 ∧ f 5 = .int .i64 y9.2 ∧ f 6 = .int .i64 y10.1 ∧ f 7 = .int .i64 y10.2 ∧ f 8 = .int .i64 y11.1 ∧ f 9 = .int .i64 y11.2) ⟨rfl, rfl, rfl, rfl, rfl, rfl, rfl, rfl, rfl⟩ ?_))
  rintro f ⟨hf1, hf2, hf3, hf4, hf5, hf6, hf7, hf8, hf9⟩
  refine (JC.norm (i := 1) hf1 (JC.norm (i := 2) hf2 (JC.norm (i := 3) hf3 (JC.norm (i := 4) hf4 (JC.norm (i := 5) hf5 (JC.norm (i := 6) hf6 (JC.norm (i := 7) hf7 (JC.norm (i := 8) hf8 (JC.norm (i := 9) hf9 ?_)))))))))
  refine JC.seq (JC.region (by rfl) ?_)
  intro hQ
  refine JL.loadOwn 1 az_25 rfl rfl rfl .none rfl ?_
  obtain ⟨y12, hy12, hF⟩ := bind_some hF
  refine JL.callS (c_ref03_Hopes n H6 s s_v2 (SL.mono R_Cell_mono hs6 hs_2) s_v3 (SL.mono R_Cell_mono hs6 hs_3) s_v4 (SL.mono R_Panel_mono hs6 hs_4) y12 hy12) rfl en_29 .none rfl ?_
  refine JL.move .none rfl ?_
  refine JL.extract rfl rfl .none rfl ?_
  refine JL.extract rfl rfl .none rfl ?_
  refine JL.assign .none rfl ?_
  refine JL.assign .none rfl ?_
  refine JL.done hQ (JQ.go (JC.seq (JC.region (by rfl) ?_)))
  intro hQ
  refine JL.loadOwn 0 az_25 rfl rfl rfl .none rfl ?_
  obtain ⟨y13, hy13, hF⟩ := bind_some hF
  refine JL.callS (c_lays_Waste n H6 y5 y5a_v2 hy5a_2 y5a_v3 hy5a_3 y5a_v4 hy5a_4 y13 hy13) rfl en_26 .none rfl ?_
  refine JL.move .none rfl ?_
  refine JL.extract rfl rfl .none rfl ?_
  refine JL.extract rfl rfl .none rfl ?_
  refine JL.alloc ze_46 .none rfl ?_
  intro b14
  refine JL.storeOwn 0 (cs := [.int .i64 y13.1.Low, .int .i64 y13.1.High]) az_46 rfl rfl rfl (one_cons rfl (one_cons rfl one_nil)) rfl rfl .none ?_
  refine JL.assign .none rfl ?_
  refine JL.done hQ (JQ.go (JC.fresh (fun f => f 1 = .pointer (some ⟨b1, 0, none⟩) ∧ f 2 = .bool false ∧ f 3 = .pointer (some ⟨b8, 0, none⟩) ∧ f 4 = .int .i64 y9.1 ∧ f 5 = .int .i64 y9.2 ∧ f 6 = .int .i64 y10.1 ∧ f 7 = .int .i64 y10.2 ∧ f 8 = .int .i64 y11.1 ∧ f 9 = .int .i64 y11.2 ∧ f 10 = .int .i64 y12.1 ∧ f 11 = .int .i64 y12.2 ∧ f 12 = .pointer (some ⟨b14, 0, none⟩) ∧ f 13 = .int .i64 y13.2) ⟨rfl, rfl, rfl, rfl, rfl, rfl, rfl, rfl, rfl, rfl, rfl, rfl, rfl⟩ ?_))
  rintro f ⟨hf1, hf2, hf3, hf4, hf5, hf6, hf7, hf8, hf9, hf10, hf11, hf12, hf13⟩
  refine (JC.norm (i := 1) hf1 (JC.norm (i := 2) hf2 (JC.norm (i := 3) hf3 (JC.norm (i := 4) hf4 (JC.norm (i := 5) hf5 (JC.norm (i := 6) hf6 (JC.norm (i := 7) hf7 (JC.norm (i := 8) hf8 (JC.norm (i := 9) hf9 (JC.norm (i := 10) hf10 (JC.norm (i := 11) hf11 (JC.norm (i := 12) hf12 (JC.norm (i := 13) hf13 ?_)))))))))))))
  refine JC.seq (JC.region (by rfl) ?_)
  intro hQ
  refine JL.loadOwn 2 az_25 rfl rfl rfl .none rfl ?_
  obtain ⟨y15, hy15, hF⟩ := bind_some hF
  refine JL.callS (c_ref03_Waste n H6 s s_v2 (SL.mono R_Cell_mono hs6 hs_2) s_v3 (SL.mono R_Cell_mono hs6 hs_3) s_v4 (SL.mono R_Panel_mono hs6 hs_4) y15 hy15) rfl en_30 .none rfl ?_
  refine JL.move .none rfl ?_
  refine JL.extract rfl rfl .none rfl ?_
  refine JL.extract rfl rfl .none rfl ?_
  refine JL.alloc ze_46 .none rfl ?_
  intro b16
  refine JL.storeOwn 0 (cs := [.int .i64 y15.1.Low, .int .i64 y15.1.High]) az_46 rfl rfl rfl (one_cons rfl (one_cons rfl one_nil)) rfl rfl .none ?_
  refine JL.assign .none rfl ?_
  refine JL.done hQ (JQ.go (JC.seq (JC.region (by rfl) ?_)))
  intro hQ
  refine JL.loadOwn 2 az_25 rfl rfl rfl .none rfl ?_
  obtain ⟨y17, hy17, hF⟩ := bind_some hF
  refine JL.callH (c_lays_Matters n H6 y5 y5a_v2 hy5a_2 y5a_v3 hy5a_3 y5a_v4 hy5a_4 y17 hy17) rfl en_18 .none rfl ?_
  rintro H18 vv19 hs18 ⟨y17a_v0, rfl, hy17a_0⟩
  refine JL.move .none rfl ?_
  refine JL.extract rfl rfl .none rfl ?_
  refine JL.extract rfl rfl .none rfl ?_
  refine JL.assign .none rfl ?_
  refine JL.assign .none rfl ?_
  refine JL.done hQ (JQ.go (JC.fresh (fun f => f 1 = .pointer (some ⟨b1, 0, none⟩) ∧ f 2 = .bool false ∧ f 3 = .pointer (some ⟨b8, 0, none⟩) ∧ f 4 = .int .i64 y9.1 ∧ f 5 = .int .i64 y9.2 ∧ f 6 = .int .i64 y10.1 ∧ f 7 = .int .i64 y10.2 ∧ f 8 = .int .i64 y11.1 ∧ f 9 = .int .i64 y11.2 ∧ f 10 = .int .i64 y12.1 ∧ f 11 = .int .i64 y12.2 ∧ f 12 = .pointer (some ⟨b14, 0, none⟩) ∧ f 13 = .int .i64 y13.2 ∧ f 14 = .pointer (some ⟨b16, 0, none⟩) ∧ f 15 = .int .i64 y15.2 ∧ f 16 = y17a_v0 ∧ f 17 = .int .i64 y17.2) ⟨rfl, rfl, rfl, rfl, rfl, rfl, rfl, rfl, rfl, rfl, rfl, rfl, rfl, rfl, rfl, rfl, rfl⟩ ?_))
  rintro f ⟨hf1, hf2, hf3, hf4, hf5, hf6, hf7, hf8, hf9, hf10, hf11, hf12, hf13, hf14, hf15, hf16, hf17⟩
  refine (JC.norm (i := 1) hf1 (JC.norm (i := 2) hf2 (JC.norm (i := 3) hf3 (JC.norm (i := 4) hf4 (JC.norm (i := 5) hf5 (JC.norm (i := 6) hf6 (JC.norm (i := 7) hf7 (JC.norm (i := 8) hf8 (JC.norm (i := 9) hf9 (JC.norm (i := 10) hf10 (JC.norm (i := 11) hf11 (JC.norm (i := 12) hf12 (JC.norm (i := 13) hf13 (JC.norm (i := 14) hf14 (JC.norm (i := 15) hf15 (JC.norm (i := 16) hf16 (JC.norm (i := 17) hf17 ?_)))))))))))))))))
  refine JC.seq (JC.region (by rfl) ?_)
  intro hQ
  refine JL.loadOwn 3 az_25 rfl rfl rfl .none rfl ?_
  obtain ⟨y20, hy20, hF⟩ := bind_some hF
  refine JL.callH (c_ref03_Matters n H18 s s_v2 (SL.mono R_Cell_mono (HSub.trans hs6 hs18) hs_2) s_v3 (SL.mono R_Cell_mono (HSub.trans hs6 hs18) hs_3) s_v4 (SL.mono R_Panel_mono (HSub.trans hs6 hs18) hs_4) y20 hy20) rfl en_31 .none rfl ?_
  rintro H21 vv22 hs21 ⟨y20a_v0, rfl, hy20a_0⟩
  refine JL.move .none rfl ?_
  refine JL.extract rfl rfl .none rfl ?_
  refine JL.extract rfl rfl .none rfl ?_
  refine JL.assign .none rfl ?_
  refine JL.assign .none rfl ?_
  refine JL.done hQ (JQ.go (JC.seq (JC.region (by rfl) ?_)))
  intro hQ
  refine JL.loadOwn 2 az_25 rfl rfl rfl .none rfl ?_
  obtain ⟨y23, hy23, hF⟩ := bind_some hF
  refine JL.callH (c_lays_Lay n H21 y5 y5a_v2 (SL.mono R_Cell_mono (HSub.trans hs18 hs21) hy5a_2) y5a_v3 (SL.mono R_Cell_mono (HSub.trans hs18 hs21) hy5a_3) y5a_v4 (SL.mono R_Panel_mono (HSub.trans hs18 hs21) hy5a_4) y23 hy23) rfl en_20 .none rfl ?_
  rintro H24 vv25 hs24 ⟨y23a_v0, rfl, hy23a_0⟩
  refine JL.move .none rfl ?_
  refine JL.extract rfl rfl .none rfl ?_
  refine JL.extract rfl rfl .none rfl ?_
  refine JL.assign .none rfl ?_
  refine JL.assign .none rfl ?_
  refine JL.done hQ (JQ.go (JC.fresh (fun f => f 1 = .pointer (some ⟨b1, 0, none⟩) ∧ f 2 = .bool false ∧ f 4 = .int .i64 y9.1 ∧ f 5 = .int .i64 y9.2 ∧ f 6 = .int .i64 y10.1 ∧ f 7 = .int .i64 y10.2 ∧ f 8 = .int .i64 y11.1 ∧ f 9 = .int .i64 y11.2 ∧ f 10 = .int .i64 y12.1 ∧ f 11 = .int .i64 y12.2 ∧ f 12 = .pointer (some ⟨b14, 0, none⟩) ∧ f 13 = .int .i64 y13.2 ∧ f 14 = .pointer (some ⟨b16, 0, none⟩) ∧ f 15 = .int .i64 y15.2 ∧ f 16 = y17a_v0 ∧ f 17 = .int .i64 y17.2 ∧ f 18 = y20a_v0 ∧ f 19 = .int .i64 y20.2 ∧ f 20 = y23a_v0 ∧ f 21 = .int .i64 y23.2) ⟨rfl, rfl, rfl, rfl, rfl, rfl, rfl, rfl, rfl, rfl, rfl, rfl, rfl, rfl, rfl, rfl, rfl, rfl, rfl, rfl⟩ ?_))
  rintro f ⟨hf1, hf2, hf4, hf5, hf6, hf7, hf8, hf9, hf10, hf11, hf12, hf13, hf14, hf15, hf16, hf17, hf18, hf19, hf20, hf21⟩
  refine (JC.norm (i := 1) hf1 (JC.norm (i := 2) hf2 (JC.norm (i := 4) hf4 (JC.norm (i := 5) hf5 (JC.norm (i := 6) hf6 (JC.norm (i := 7) hf7 (JC.norm (i := 8) hf8 (JC.norm (i := 9) hf9 (JC.norm (i := 10) hf10 (JC.norm (i := 11) hf11 (JC.norm (i := 12) hf12 (JC.norm (i := 13) hf13 (JC.norm (i := 14) hf14 (JC.norm (i := 15) hf15 (JC.norm (i := 16) hf16 (JC.norm (i := 17) hf17 (JC.norm (i := 18) hf18 (JC.norm (i := 19) hf19 (JC.norm (i := 20) hf20 (JC.norm (i := 21) hf21 ?_))))))))))))))))))))
  refine JC.seq (JC.seq (JC.region (by rfl) ?_))
  intro hQ
  refine JL.move .none rfl ?_
  refine JL.move .none rfl ?_
  refine JL.bin rfl rfl rfl .none rfl ?_
  refine JL.move .none rfl ?_
  refine JL.cut 4 (fun f => f 1 = .pointer (some ⟨b1, 0, none⟩) ∧ f 6 = .int .i64 y10.1 ∧ f 7 = .int .i64 y10.2 ∧ f 8 = .int .i64 y11.1 ∧ f 9 = .int .i64 y11.2 ∧ f 10 = .int .i64 y12.1 ∧ f 11 = .int .i64 y12.2 ∧ f 12 = .pointer (some ⟨b14, 0, none⟩) ∧ f 13 = .int .i64 y13.2 ∧ f 14 = .pointer (some ⟨b16, 0, none⟩) ∧ f 15 = .int .i64 y15.2 ∧ f 16 = y17a_v0 ∧ f 17 = .int .i64 y17.2 ∧ f 18 = y20a_v0 ∧ f 19 = .int .i64 y20.2 ∧ f 20 = y23a_v0 ∧ f 21 = .int .i64 y23.2 ∧ f 79 = .bool ((y9.1 != y10.1) || (y9.2 != y10.2))) ?_ ?_
  ·intro hJ26
   rcases bcases (y9.1 != y10.1) with hc27 | hc27
   ·skip
    refine JL.skip (.bool rfl rfl rfl hc27) rfl ?_
    refine JL.skip (.bool rfl rfl rfl hc27) rfl ?_
    refine JL.skip (.bool rfl rfl rfl hc27) rfl ?_
    refine JL.pick_t (b := (y9.1 != y10.1)) rfl hc27 .none rfl ?_
    exact hJ26 _ ⟨rfl, rfl, rfl, rfl, rfl, rfl, rfl, rfl, rfl, rfl, rfl, rfl, rfl, rfl, rfl, rfl, rfl, or_t hc27 rfl⟩
   ·skip
    refine JL.move (.some rfl rfl rfl hc27) rfl ?_
    refine JL.move (.some rfl rfl rfl hc27) rfl ?_
    refine JL.bin rfl rfl rfl (.some rfl rfl rfl hc27) rfl ?_
    refine JL.pick_f (b := (y9.1 != y10.1)) rfl hc27 .none rfl ?_
    exact hJ26 _ ⟨rfl, rfl, rfl, rfl, rfl, rfl, rfl, rfl, rfl, rfl, rfl, rfl, rfl, rfl, rfl, rfl, rfl, or_f hc27 rfl⟩
  ·rintro f ⟨hf1, hf6, hf7, hf8, hf9, hf10, hf11, hf12, hf13, hf14, hf15, hf16, hf17, hf18, hf19, hf20, hf21, hf79⟩
   refine (JL.norm (i := 1) hf1 (JL.norm (i := 6) hf6 (JL.norm (i := 7) hf7 (JL.norm (i := 8) hf8 (JL.norm (i := 9) hf9 (JL.norm (i := 10) hf10 (JL.norm (i := 11) hf11 (JL.norm (i := 12) hf12 (JL.norm (i := 13) hf13 (JL.norm (i := 14) hf14 (JL.norm (i := 15) hf15 (JL.norm (i := 16) hf16 (JL.norm (i := 17) hf17 (JL.norm (i := 18) hf18 (JL.norm (i := 19) hf19 (JL.norm (i := 20) hf20 (JL.norm (i := 21) hf21 (JL.norm (i := 79) hf79 ?_))))))))))))))))))
   refine JL.move .none rfl ?_
   refine JL.cut 4 (fun f => f 1 = .pointer (some ⟨b1, 0, none⟩) ∧ f 6 = .int .i64 y10.1 ∧ f 7 = .int .i64 y10.2 ∧ f 9 = .int .i64 y11.2 ∧ f 11 = .int .i64 y12.2 ∧ f 12 = .pointer (some ⟨b14, 0, none⟩) ∧ f 13 = .int .i64 y13.2 ∧ f 14 = .pointer (some ⟨b16, 0, none⟩) ∧ f 15 = .int .i64 y15.2 ∧ f 16 = y17a_v0 ∧ f 17 = .int .i64 y17.2 ∧ f 18 = y20a_v0 ∧ f 19 = .int .i64 y20.2 ∧ f 20 = y23a_v0 ∧ f 21 = .int .i64 y23.2 ∧ f 84 = .bool (((y9.1 != y10.1) || (y9.2 != y10.2)) || (y11.1 != y12.1))) ?_ ?_
   ·intro hJ28
    rcases bcases ((y9.1 != y10.1) || (y9.2 != y10.2)) with hc29 | hc29
    ·skip
     refine JL.skip (.bool rfl rfl rfl hc29) rfl ?_
     refine JL.skip (.bool rfl rfl rfl hc29) rfl ?_
     refine JL.skip (.bool rfl rfl rfl hc29) rfl ?_
     refine JL.pick_t (b := ((y9.1 != y10.1) || (y9.2 != y10.2))) rfl hc29 .none rfl ?_
     exact hJ28 _ ⟨rfl, rfl, rfl, rfl, rfl, rfl, rfl, rfl, rfl, rfl, rfl, rfl, rfl, rfl, rfl, or_t hc29 rfl⟩
    ·skip
     refine JL.move (.some rfl rfl rfl hc29) rfl ?_
     refine JL.move (.some rfl rfl rfl hc29) rfl ?_
     refine JL.bin rfl rfl rfl (.some rfl rfl rfl hc29) rfl ?_
     refine JL.pick_f (b := ((y9.1 != y10.1) || (y9.2 != y10.2))) rfl hc29 .none rfl ?_
     exact hJ28 _ ⟨rfl, rfl, rfl, rfl, rfl, rfl, rfl, rfl, rfl, rfl, rfl, rfl, rfl, rfl, rfl, or_f hc29 rfl⟩
   ·rintro f ⟨hf1, hf6, hf7, hf9, hf11, hf12, hf13, hf14, hf15, hf16, hf17, hf18, hf19, hf20, hf21, hf84⟩
    refine (JL.norm (i := 1) hf1 (JL.norm (i := 6) hf6 (JL.norm (i := 7) hf7 (JL.norm (i := 9) hf9 (JL.norm (i := 11) hf11 (JL.norm (i := 12) hf12 (JL.norm (i := 13) hf13 (JL.norm (i := 14) hf14 (JL.norm (i := 15) hf15 (JL.norm (i := 16) hf16 (JL.norm (i := 17) hf17 (JL.norm (i := 18) hf18 (JL.norm (i := 19) hf19 (JL.norm (i := 20) hf20 (JL.norm (i := 21) hf21 (JL.norm (i := 84) hf84 ?_))))))))))))))))
    refine JL.move .none rfl ?_
    refine JL.cut 4 (fun f => f 1 = .pointer (some ⟨b1, 0, none⟩) ∧ f 6 = .int .i64 y10.1 ∧ f 7 = .int .i64 y10.2 ∧ f 12 = .pointer (some ⟨b14, 0, none⟩) ∧ f 13 = .int .i64 y13.2 ∧ f 14 = .pointer (some ⟨b16, 0, none⟩) ∧ f 15 = .int .i64 y15.2 ∧ f 16 = y17a_v0 ∧ f 17 = .int .i64 y17.2 ∧ f 18 = y20a_v0 ∧ f 19 = .int .i64 y20.2 ∧ f 20 = y23a_v0 ∧ f 21 = .int .i64 y23.2 ∧ f 89 = .bool ((((y9.1 != y10.1) || (y9.2 != y10.2)) || (y11.1 != y12.1)) || (y11.2 != y12.2))) ?_ ?_
    ·intro hJ30
     rcases bcases (((y9.1 != y10.1) || (y9.2 != y10.2)) || (y11.1 != y12.1)) with hc31 | hc31
     ·skip
      refine JL.skip (.bool rfl rfl rfl hc31) rfl ?_
      refine JL.skip (.bool rfl rfl rfl hc31) rfl ?_
      refine JL.skip (.bool rfl rfl rfl hc31) rfl ?_
      refine JL.pick_t (b := (((y9.1 != y10.1) || (y9.2 != y10.2)) || (y11.1 != y12.1))) rfl hc31 .none rfl ?_
      exact hJ30 _ ⟨rfl, rfl, rfl, rfl, rfl, rfl, rfl, rfl, rfl, rfl, rfl, rfl, rfl, or_t hc31 rfl⟩
     ·skip
      refine JL.move (.some rfl rfl rfl hc31) rfl ?_
      refine JL.move (.some rfl rfl rfl hc31) rfl ?_
      refine JL.bin rfl rfl rfl (.some rfl rfl rfl hc31) rfl ?_
      refine JL.pick_f (b := (((y9.1 != y10.1) || (y9.2 != y10.2)) || (y11.1 != y12.1))) rfl hc31 .none rfl ?_
      exact hJ30 _ ⟨rfl, rfl, rfl, rfl, rfl, rfl, rfl, rfl, rfl, rfl, rfl, rfl, rfl, or_f hc31 rfl⟩
    ·rintro f ⟨hf1, hf6, hf7, hf12, hf13, hf14, hf15, hf16, hf17, hf18, hf19, hf20, hf21, hf89⟩
     refine (JL.norm (i := 1) hf1 (JL.norm (i := 6) hf6 (JL.norm (i := 7) hf7 (JL.norm (i := 12) hf12 (JL.norm (i := 13) hf13 (JL.norm (i := 14) hf14 (JL.norm (i := 15) hf15 (JL.norm (i := 16) hf16 (JL.norm (i := 17) hf17 (JL.norm (i := 18) hf18 (JL.norm (i := 19) hf19 (JL.norm (i := 20) hf20 (JL.norm (i := 21) hf21 (JL.norm (i := 89) hf89 ?_))))))))))))))
     refine JL.move .none rfl ?_
     refine JL.cut 4 (fun f => f 1 = .pointer (some ⟨b1, 0, none⟩) ∧ f 6 = .int .i64 y10.1 ∧ f 7 = .int .i64 y10.2 ∧ f 13 = .int .i64 y13.2 ∧ f 15 = .int .i64 y15.2 ∧ f 16 = y17a_v0 ∧ f 17 = .int .i64 y17.2 ∧ f 18 = y20a_v0 ∧ f 19 = .int .i64 y20.2 ∧ f 20 = y23a_v0 ∧ f 21 = .int .i64 y23.2 ∧ f 94 = .bool (((((y9.1 != y10.1) || (y9.2 != y10.2)) || (y11.1 != y12.1)) || (y11.2 != y12.2)) || (!((y13.1.Low == y15.1.Low) && (y13.1.High == y15.1.High))))) ?_ ?_
     ·intro hJ32
      rcases bcases ((((y9.1 != y10.1) || (y9.2 != y10.2)) || (y11.1 != y12.1)) || (y11.2 != y12.2)) with hc33 | hc33
      ·skip
       refine JL.skip (.bool rfl rfl rfl hc33) rfl ?_
       refine JL.skip (.bool rfl rfl rfl hc33) rfl ?_
       refine JL.skip (.bool rfl rfl rfl hc33) rfl ?_
       refine JL.pick_t (b := ((((y9.1 != y10.1) || (y9.2 != y10.2)) || (y11.1 != y12.1)) || (y11.2 != y12.2))) rfl hc33 .none rfl ?_
       exact hJ32 _ ⟨rfl, rfl, rfl, rfl, rfl, rfl, rfl, rfl, rfl, rfl, rfl, or_t hc33 rfl⟩
      ·skip
       refine JL.loadOwn 1 az_46 rfl rfl rfl (.some rfl rfl rfl hc33) rfl ?_
       refine JL.loadOwn 0 az_46 rfl rfl rfl (.some rfl rfl rfl hc33) rfl ?_
       refine JL.neAgg eqg_46 rfl rfl (fun w => eqa_46 y13.1.Low y13.1.High y15.1.Low y15.1.High w) (.some rfl rfl rfl hc33) rfl ?_
       refine JL.pick_f (b := ((((y9.1 != y10.1) || (y9.2 != y10.2)) || (y11.1 != y12.1)) || (y11.2 != y12.2))) rfl hc33 .none rfl ?_
       exact hJ32 _ ⟨rfl, rfl, rfl, rfl, rfl, rfl, rfl, rfl, rfl, rfl, rfl, or_f hc33 rfl⟩
     ·rintro f ⟨hf1, hf6, hf7, hf13, hf15, hf16, hf17, hf18, hf19, hf20, hf21, hf94⟩
      refine (JL.norm (i := 1) hf1 (JL.norm (i := 6) hf6 (JL.norm (i := 7) hf7 (JL.norm (i := 13) hf13 (JL.norm (i := 15) hf15 (JL.norm (i := 16) hf16 (JL.norm (i := 17) hf17 (JL.norm (i := 18) hf18 (JL.norm (i := 19) hf19 (JL.norm (i := 20) hf20 (JL.norm (i := 21) hf21 (JL.norm (i := 94) hf94 ?_))))))))))))
      refine JL.move .none rfl ?_
      refine JL.cut 4 (fun f => f 1 = .pointer (some ⟨b1, 0, none⟩) ∧ f 6 = .int .i64 y10.1 ∧ f 7 = .int .i64 y10.2 ∧ f 16 = y17a_v0 ∧ f 17 = .int .i64 y17.2 ∧ f 18 = y20a_v0 ∧ f 19 = .int .i64 y20.2 ∧ f 20 = y23a_v0 ∧ f 21 = .int .i64 y23.2 ∧ f 99 = .bool ((((((y9.1 != y10.1) || (y9.2 != y10.2)) || (y11.1 != y12.1)) || (y11.2 != y12.2)) || (!((y13.1.Low == y15.1.Low) && (y13.1.High == y15.1.High)))) || (y13.2 != y15.2))) ?_ ?_
      ·intro hJ34
       rcases bcases (((((y9.1 != y10.1) || (y9.2 != y10.2)) || (y11.1 != y12.1)) || (y11.2 != y12.2)) || (!((y13.1.Low == y15.1.Low) && (y13.1.High == y15.1.High)))) with hc35 | hc35
       ·skip
        refine JL.skip (.bool rfl rfl rfl hc35) rfl ?_
        refine JL.skip (.bool rfl rfl rfl hc35) rfl ?_
        refine JL.skip (.bool rfl rfl rfl hc35) rfl ?_
        refine JL.pick_t (b := (((((y9.1 != y10.1) || (y9.2 != y10.2)) || (y11.1 != y12.1)) || (y11.2 != y12.2)) || (!((y13.1.Low == y15.1.Low) && (y13.1.High == y15.1.High))))) rfl hc35 .none rfl ?_
        exact hJ34 _ ⟨rfl, rfl, rfl, rfl, rfl, rfl, rfl, rfl, rfl, or_t hc35 rfl⟩
       ·skip
        refine JL.move (.some rfl rfl rfl hc35) rfl ?_
        refine JL.move (.some rfl rfl rfl hc35) rfl ?_
        refine JL.bin rfl rfl rfl (.some rfl rfl rfl hc35) rfl ?_
        refine JL.pick_f (b := (((((y9.1 != y10.1) || (y9.2 != y10.2)) || (y11.1 != y12.1)) || (y11.2 != y12.2)) || (!((y13.1.Low == y15.1.Low) && (y13.1.High == y15.1.High))))) rfl hc35 .none rfl ?_
        exact hJ34 _ ⟨rfl, rfl, rfl, rfl, rfl, rfl, rfl, rfl, rfl, or_f hc35 rfl⟩
      ·rintro f ⟨hf1, hf6, hf7, hf16, hf17, hf18, hf19, hf20, hf21, hf99⟩
       refine (JL.norm (i := 1) hf1 (JL.norm (i := 6) hf6 (JL.norm (i := 7) hf7 (JL.norm (i := 16) hf16 (JL.norm (i := 17) hf17 (JL.norm (i := 18) hf18 (JL.norm (i := 19) hf19 (JL.norm (i := 20) hf20 (JL.norm (i := 21) hf21 (JL.norm (i := 99) hf99 ?_))))))))))
       refine JL.move .none rfl ?_
       obtain ⟨p37, hp37, hF⟩ := bind_some hF
       refine JL.cut 5 (fun f => f 1 = .pointer (some ⟨b1, 0, none⟩) ∧ f 6 = .int .i64 y10.1 ∧ f 7 = .int .i64 y10.2 ∧ f 17 = .int .i64 y17.2 ∧ f 19 = .int .i64 y20.2 ∧ f 20 = y23a_v0 ∧ f 21 = .int .i64 y23.2 ∧ f 105 = .bool p37) ?_ ?_
       ·intro hJ38
        rcases ite_some hp37 with ⟨hc39, hF⟩ | ⟨hc39, hF⟩
        ·skip
         refine JL.skip (.bool rfl rfl rfl hc39) rfl ?_
         refine JL.skip (.bool rfl rfl rfl hc39) rfl ?_
         refine JL.skip (.bool rfl rfl rfl hc39) rfl ?_
         refine JL.skip (.bool rfl rfl rfl hc39) rfl ?_
         refine JL.pick_t (b := ((((((y9.1 != y10.1) || (y9.2 != y10.2)) || (y11.1 != y12.1)) || (y11.2 != y12.2)) || (!((y13.1.Low == y15.1.Low) && (y13.1.High == y15.1.High)))) || (y13.2 != y15.2))) rfl hc39 .none rfl ?_
         obtain rfl := Option.some.inj hF
         exact hJ38 _ ⟨rfl, rfl, rfl, rfl, rfl, rfl, rfl, rfl⟩
        ·skip
         refine JL.move (.some rfl rfl rfl hc39) rfl ?_
         refine JL.move (.some rfl rfl rfl hc39) rfl ?_
         obtain ⟨y40, hy40, hF⟩ := bind_some hF
         refine JL.callS (c_law03_sameInts n H24 y17.1 y17a_v0 (SL.mono RInt.mono (HSub.trans hs21 hs24) hy17a_0) y20.1 y20a_v0 (SL.mono RInt.mono hs24 hy20a_0) y40 hy40) rfl en_32 (.some rfl rfl rfl hc39) rfl ?_
         refine JL.not rfl (.some rfl rfl rfl hc39) rfl ?_
         refine JL.pick_f (b := ((((((y9.1 != y10.1) || (y9.2 != y10.2)) || (y11.1 != y12.1)) || (y11.2 != y12.2)) || (!((y13.1.Low == y15.1.Low) && (y13.1.High == y15.1.High)))) || (y13.2 != y15.2))) rfl hc39 .none rfl ?_
         obtain rfl := Option.some.inj hF
         exact hJ38 _ ⟨rfl, rfl, rfl, rfl, rfl, rfl, rfl, rfl⟩
       ·rintro f ⟨hf1, hf6, hf7, hf17, hf19, hf20, hf21, hf105⟩
        refine (JL.norm (i := 1) hf1 (JL.norm (i := 6) hf6 (JL.norm (i := 7) hf7 (JL.norm (i := 17) hf17 (JL.norm (i := 19) hf19 (JL.norm (i := 20) hf20 (JL.norm (i := 21) hf21 (JL.norm (i := 105) hf105 ?_))))))))
        refine JL.move .none rfl ?_
        refine JL.cut 4 (fun f => f 1 = .pointer (some ⟨b1, 0, none⟩) ∧ f 6 = .int .i64 y10.1 ∧ f 7 = .int .i64 y10.2 ∧ f 20 = y23a_v0 ∧ f 21 = .int .i64 y23.2 ∧ f 110 = .bool (p37 || (y17.2 != y20.2))) ?_ ?_
        ·intro hJ41
         rcases bcases p37 with hc42 | hc42
         ·skip
          refine JL.skip (.bool rfl rfl rfl hc42) rfl ?_
          refine JL.skip (.bool rfl rfl rfl hc42) rfl ?_
          refine JL.skip (.bool rfl rfl rfl hc42) rfl ?_
          refine JL.pick_t (b := p37) rfl hc42 .none rfl ?_
          exact hJ41 _ ⟨rfl, rfl, rfl, rfl, rfl, or_t hc42 rfl⟩
         ·skip
          refine JL.move (.some rfl rfl rfl hc42) rfl ?_
          refine JL.move (.some rfl rfl rfl hc42) rfl ?_
          refine JL.bin rfl rfl rfl (.some rfl rfl rfl hc42) rfl ?_
          refine JL.pick_f (b := p37) rfl hc42 .none rfl ?_
          exact hJ41 _ ⟨rfl, rfl, rfl, rfl, rfl, or_f hc42 rfl⟩
        ·rintro f ⟨hf1, hf6, hf7, hf20, hf21, hf110⟩
         refine (JL.norm (i := 1) hf1 (JL.norm (i := 6) hf6 (JL.norm (i := 7) hf7 (JL.norm (i := 20) hf20 (JL.norm (i := 21) hf21 (JL.norm (i := 110) hf110 ?_))))))
         refine JL.move .none rfl ?_
         refine JL.cut 4 (fun f => f 1 = .pointer (some ⟨b1, 0, none⟩) ∧ f 6 = .int .i64 y10.1 ∧ f 7 = .int .i64 y10.2 ∧ f 20 = y23a_v0 ∧ f 115 = .bool ((p37 || (y17.2 != y20.2)) || (y23.2 != y10.2))) ?_ ?_
         ·intro hJ43
          rcases bcases (p37 || (y17.2 != y20.2)) with hc44 | hc44
          ·skip
           refine JL.skip (.bool rfl rfl rfl hc44) rfl ?_
           refine JL.skip (.bool rfl rfl rfl hc44) rfl ?_
           refine JL.skip (.bool rfl rfl rfl hc44) rfl ?_
           refine JL.pick_t (b := (p37 || (y17.2 != y20.2))) rfl hc44 .none rfl ?_
           exact hJ43 _ ⟨rfl, rfl, rfl, rfl, or_t hc44 rfl⟩
          ·skip
           refine JL.move (.some rfl rfl rfl hc44) rfl ?_
           refine JL.move (.some rfl rfl rfl hc44) rfl ?_
           refine JL.bin rfl rfl rfl (.some rfl rfl rfl hc44) rfl ?_
           refine JL.pick_f (b := (p37 || (y17.2 != y20.2))) rfl hc44 .none rfl ?_
           exact hJ43 _ ⟨rfl, rfl, rfl, rfl, or_f hc44 rfl⟩
         ·rintro f ⟨hf1, hf6, hf7, hf20, hf115⟩
          refine (JL.norm (i := 1) hf1 (JL.norm (i := 6) hf6 (JL.norm (i := 7) hf7 (JL.norm (i := 20) hf20 (JL.norm (i := 115) hf115 ?_)))))
          refine JL.move .none rfl ?_
          refine JL.cut 4 (fun f => f 1 = .pointer (some ⟨b1, 0, none⟩) ∧ f 6 = .int .i64 y10.1 ∧ f 7 = .int .i64 y10.2 ∧ f 20 = y23a_v0 ∧ f 120 = .bool (((p37 || (y17.2 != y20.2)) || (y23.2 != y10.2)) || (decide (20 < (y23.1.length : Int))))) ?_ ?_
          ·intro hJ45
           rcases bcases ((p37 || (y17.2 != y20.2)) || (y23.2 != y10.2)) with hc46 | hc46
           ·skip
            refine JL.skip (.bool rfl rfl rfl hc46) rfl ?_
            refine JL.skip (.bool rfl rfl rfl hc46) rfl ?_
            refine JL.skip (.bool rfl rfl rfl hc46) rfl ?_
            refine JL.pick_t (b := ((p37 || (y17.2 != y20.2)) || (y23.2 != y10.2))) rfl hc46 .none rfl ?_
            exact hJ45 _ ⟨rfl, rfl, rfl, rfl, or_t hc46 rfl⟩
           ·skip
            refine JL.move (.some rfl rfl rfl hc46) rfl ?_
            refine JL.lenSL (R := R_Place) ul_54 hy23a_0 (.some rfl rfl rfl hc46) rfl ?_
            refine JL.bin rfl rfl rfl (.some rfl rfl rfl hc46) rfl ?_
            refine JL.pick_f (b := ((p37 || (y17.2 != y20.2)) || (y23.2 != y10.2))) rfl hc46 .none rfl ?_
            exact hJ45 _ ⟨rfl, rfl, rfl, rfl, or_f hc46 rfl⟩
          ·rintro f ⟨hf1, hf6, hf7, hf20, hf120⟩
           refine (JL.norm (i := 1) hf1 (JL.norm (i := 6) hf6 (JL.norm (i := 7) hf7 (JL.norm (i := 20) hf20 (JL.norm (i := 120) hf120 ?_)))))
           refine JL.done hQ (JQ.go ?_)
           rcases ite_some hF with ⟨hc47, hF⟩ | ⟨hc47, hF⟩
           ·refine JC.cond_t (b := (((p37 || (y17.2 != y20.2)) || (y23.2 != y10.2)) || (decide (20 < (y23.1.length : Int))))) rfl hc47 ?_
            refine JC.seq (JC.region (by rfl) ?_)
            intro hQ
            refine JL.assign .none rfl ?_
            refine JL.done hQ (JQ.go (JC.ret (JQ.ret_then ?_)))
            obtain rfl := Option.some.inj hF
            exact JQ.outS rfl (.tmp .nil) rfl
           ·refine JC.cond_f (b := (((p37 || (y17.2 != y20.2)) || (y23.2 != y10.2)) || (decide (20 < (y23.1.length : Int))))) rfl hc47 ?_
            refine JC.skip (JQ.go (JC.seq (JC.seq (JC.region (by rfl) ?_))))
            intro hQ
            refine JL.move .none rfl ?_
            refine JL.bin rfl rfl rfl .none rfl ?_
            refine JL.done hQ (JQ.go ?_)
            rcases ite_some hF with ⟨hc48, hF⟩ | ⟨hc48, hF⟩
            ·refine JC.cond_t (b := (y10.2 != 0)) rfl hc48 ?_
             refine JC.seq (JC.region (by rfl) ?_)
             intro hQ
             refine JL.move .none rfl ?_
             refine JL.lenSL (R := R_Place) ul_54 hy23a_0 .none rfl ?_
             refine JL.bin rfl rfl rfl .none rfl ?_
             refine JL.move .none rfl ?_
             obtain ⟨p50, hp50, hF⟩ := bind_some hF
             refine JL.cut 2 (fun f => f 128 = .bool p50) ?_ ?_
             ·intro hJ51
              rcases ite_some hp50 with ⟨hc52, hF⟩ | ⟨hc52, hF⟩
              ·skip
               obtain ⟨y53, hy53, hF⟩ := bind_some hF
               refine JL.callS (c_law03_works n H24 y53 hy53) rfl en_11 (.some rfl rfl rfl hc52) rfl ?_
               refine JL.pick_t (b := ((y23.1.length : Int) == 0)) rfl hc52 .none rfl ?_
               obtain rfl := Option.some.inj hF
               exact hJ51 _ (rfl)
              ·skip
               refine JL.skip (.bool rfl rfl rfl hc52) rfl ?_
               refine JL.pick_f (b := ((y23.1.length : Int) == 0)) rfl hc52 .none rfl ?_
               obtain rfl := Option.some.inj hF
               exact hJ51 _ (rfl)
             ·rintro f hf128
              refine (JL.norm (i := 128) hf128 ?_)
              refine JL.assign .none rfl ?_
              refine JL.done hQ (JQ.go (JC.ret (JQ.ret_then ?_)))
              obtain rfl := Option.some.inj hF
              exact JQ.outS rfl (.tmp .nil) rfl
            ·refine JC.cond_f (b := (y10.2 != 0)) rfl hc48 ?_
             refine JC.skip (JQ.go (JC.seq (JC.region (by rfl) ?_)))
             intro hQ
             refine JL.loadOwn 3 az_25 rfl rfl rfl .none rfl ?_
             refine JL.move .none rfl ?_
             obtain ⟨y54, hy54, hF⟩ := bind_some hF
             refine JL.callS (c_law03_rows n H24 s s_v2 (SL.mono R_Cell_mono (HSub.trans hs6 (HSub.trans hs18 (HSub.trans hs21 hs24))) hs_2) s_v3 (SL.mono R_Cell_mono (HSub.trans hs6 (HSub.trans hs18 (HSub.trans hs21 hs24))) hs_3) s_v4 (SL.mono R_Panel_mono (HSub.trans hs6 (HSub.trans hs18 (HSub.trans hs21 hs24))) hs_4) y23.1 y23a_v0 hy23a_0 y54 hy54) rfl en_21 .none rfl ?_
             refine JL.move .none rfl ?_
             refine JL.bin rfl rfl rfl .none rfl ?_
             refine JL.move .none rfl ?_
             obtain ⟨p56, hp56, hF⟩ := bind_some hF
             refine JL.cut 2 (fun f => f 136 = .bool p56) ?_ ?_
             ·intro hJ57
              rcases ite_some hp56 with ⟨hc58, hF⟩ | ⟨hc58, hF⟩
              ·skip
               obtain ⟨y59, hy59, hF⟩ := bind_some hF
               refine JL.callS (c_law03_works n H24 y59 hy59) rfl en_11 (.some rfl rfl rfl hc58) rfl ?_
               refine JL.pick_t (b := (y54 == y10.1)) rfl hc58 .none rfl ?_
               obtain rfl := Option.some.inj hF
               exact hJ57 _ (rfl)
              ·skip
               refine JL.skip (.bool rfl rfl rfl hc58) rfl ?_
               refine JL.pick_f (b := (y54 == y10.1)) rfl hc58 .none rfl ?_
               obtain rfl := Option.some.inj hF
               exact hJ57 _ (rfl)
             ·rintro f hf136
              refine (JL.norm (i := 136) hf136 ?_)
              refine JL.assign .none rfl ?_
              refine JL.done hQ (JQ.go (JC.ret ?_))
              obtain rfl := Option.some.inj hF
              exact JQ.outS rfl (.tmp .nil) rfl
end Go.Proofs.Ytflhjlgimihmgaa
end
section
namespace Go.Proofs.Ytflhjlgimihmgaa
open Go Go.RowKit Go.Dec
theorem W_Lap.cells {s : Lap} (h : W_Lap s) : ∀ c ∈ s.Faults ++ s.Flaws, In64 c.Row ∧ In64 c.Col := fun c hc => by
  rcases List.mem_append.1 hc with hc | hc
  · exact h.2.2.1.1 c hc
  · exact h.2.2.2.1.1 c hc
theorem law_LaysLeast (s : Lap) (hs : W_Lap s) : ∃ n, F_law03_LaysLeast n s = some true := by
  obtain ⟨n, hn⟩ : ∃ n : Nat, n = 2000000 := ⟨_, rfl⟩
  refine ⟨n, ?_⟩
  have hn2 : 2000000 ≤ n := by omega
  have hn1 : 1000000 ≤ n := by omega
  have hw : F_law03_works n = some true := by rw [hn]; exact works_ok
  rw [F_law03_LaysLeast]
  obtain ⟨b, e, q1, q2⟩ := p_Far hn1 s hs.np
  rw [e]
  simp only [Option.bind_some]
  cases b with
  | true => rw [if_pos rfl, hw]; rfl
  | false =>
    obtain ⟨hsm, hVE⟩ := q1 rfl
    rw [if_neg (by decide)]
    simp only [p_Copy hn1 s hsm, Option.bind_some]
    by_cases hV : VL s
    · have hL := hV.l
      have hW := hV.w
      have hnp := hV.np
      have hfa := hV.fa.2.2
      have hfl := hV.fl.2.2
      obtain ⟨m1, l1, f1, f3, g1⟩ := p_Least hn2 hV
      obtain ⟨m2, l2, f2, g2⟩ := p_Hopes hn2 hV
      obtain ⟨k1, _⟩ := p_sameLeast hn2 hV g1
      have k2 := p_sameHopes hn2 hV g2
      obtain ⟨l, k3, k4, hl⟩ := p_sameMatters hn2 hV f1 g1
      obtain ⟨wv, _⟩ := p_Waste hn2 hV f1 f2 g1 g2
      have wr := p_sameWaste hn2 hV f1 f2 k1 k2
      rw [wr, wv, f1, f2, f3, k1, k2, k3, k4]
      simp only [Option.bind_some, bne_self_eq_false, beq_self_eq_true, Bool.and_self, Bool.not_true, Bool.or_self, Bool.or_false, Bool.false_eq_true, if_false, p_sameInts hn1 l (by omega)]
      rcases g1.m_eq with k | k
      · rw [ans_ok k]
        rcases g1 with ⟨⟨_, hm⟩, hin, hno⟩ | ⟨h, _⟩
        · have hlen := hin.len
          have hpl := hin.places' (by omega) (by omega) hV.p
          obtain ⟨K, eK, hK⟩ := p_Rows hn1 hV (s.Faults ++ s.Flaws) (by rw [List.length_append]; omega) l1 (by omega) hpl
          rw [decide_eq_false (show ¬ 20 < (l1.length : Int) by omega), p_rowsLaw hn1 hV l1 (by omega) hpl, eK]
          have hKm : K = m1 := by
            rcases hK with ⟨_, h⟩ | ⟨h0, h⟩
            · exact absurd ((LayIn.congr inL_all).2 (hin.mono hm fun _ _ h => h)) h
            · have h1 := (h m1 k).1 ((LayIn.congr inL_all).2 hin)
              rcases Int.lt_or_le K m1 with hlt | hle
              · exact absurd ⟨_, (LayIn.congr inL_all).1 ((h K h0.1).2 (Int.le_refl _))⟩ (hno K h0.1 hlt)
              · omega
          subst hKm
          simp [hw]
        · omega
      · rw [ans_no k]
        rcases g1 with ⟨h, _⟩ | ⟨_, h, _⟩
        · omega
        · subst h
          simp [hw]
    · obtain ⟨v, e1, h1, h2⟩ := p_LCheck hn1 s hsm hs.cells
      obtain ⟨v', e2, h3, h4⟩ := p_Check hn1 s hsm
      obtain rfl : v = 30 := h1.resolve_left fun h => hV (h2.1 h)
      obtain rfl : v' = 30 := h3.resolve_left fun h => hV (h4.1 h)
      have s1 : F_lays_sure n s = some (0, [], 30) := by rw [F_lays_sure, e1]; rfl
      have s2 : F_lays_Least n s = some (0, 30) := by rw [F_lays_Least, s1]; rfl
      have s3 : F_lays_Hopes n s = some (0, 30) := by rw [F_lays_Hopes, e1]; rfl
      have s4 : F_lays_Waste n s = some (⟨0, 0⟩, 30) := by rw [F_lays_Waste, s2]; rfl
      have s5 : F_lays_Matters n s = some ([], 30) := by rw [F_lays_Matters, s2]; rfl
      have s6 : F_lays_Lay n s = some ([], 30) := by rw [F_lays_Lay, s1]; rfl
      have rk : ∀ l, F_ref03_known n s l = some (0, 30) := fun l => by rw [F_ref03_known, e2]; rfl
      have r2 : F_ref03_Least n s = some (0, 30) := by rw [F_ref03_Least, p_allR s hsm]; simp only [Option.bind_some, rk]
      have r3 : F_ref03_Hopes n s = some (0, 30) := by rw [F_ref03_Hopes, rk]; rfl
      have r4 : F_ref03_Waste n s = some (⟨0, 0⟩, 30) := by rw [F_ref03_Waste, r2]; rfl
      have r5 : F_ref03_Matters n s = some ([], 30) := by rw [F_ref03_Matters, e2]; rfl
      rw [s2, s3, s4, s5, s6, r2, r3, r4, r5]
      have hsi : F_law03_sameInts n [] [] = some true := p_sameInts hn1 [] (by simp)
      simp [hsi, hw]
end Go.Proofs.Ytflhjlgimihmgaa
end
section
namespace Go.Proofs.Ytflhjlgimihmgaa
open Go Go.RowKit Go.Dec Go.ChangeShapes Go.WideShapes Go.ChangeAt
set_option linter.unusedVariables false
theorem cl_laidOut : laidOutB Try.prog = true := by kernel_rfl
theorem cl_own : ownKnob Try.prog.godebug = none := by kernel_rfl
set_option maxRecDepth 100000 in
set_option maxHeartbeats 1000000 in
theorem laysLeast_contract (law : ∀ (x0 : Lap), W_Lap x0 → ∃ n, F_law03_LaysLeast n x0 = some true)
    (T : Type) (enc : TypeId × Value → T) (W : World) (base : Nat) (args : Array Value) (ds gs : List (DataW T)) (before : List MemPlace)
    (hval : ∀ (j : Nat) t v, Try.f8.params[j]? = some t → args[j]? = some v → Value.okWide Try.prog W .any base t v)
    (hW : DataW.Whole enc Try.prog Try.f8.params.toList Rows.laysLeastSpec.vars false W args.toList ds gs before) :
    Calls Try.prog 8 args W fun e W' => ∃ v, e = .returned v ∧ Rows.laysLeastSpec.post enc Try.prog Try.f8 false true false false W args v W' := by
  have hW' := hW
  obtain ⟨p, q, hA0, hV, rfl, hfz, hnd⟩ := hW
  have hA : DataW.TrodAll enc Try.prog W 0 (fun _ => true) true Try.f8.params.toList args.toList ds p := hA0
  rw [Try.params8] at hA hval
  obtain ⟨v0, vs0, d0, ds0, p0, q0, hargs, rfl, rfl, h0, r0⟩ := trodAll_cons hA
  obtain ⟨rfl, rfl, rfl⟩ := trodAll_nil r0
  obtain rfl : args = #[v0] := by rw [← Array.toArray_toList (xs := args), hargs]
  obtain ⟨rfl, rfl⟩ := trodVars_none hV
  obtain ⟨cs0, rfl, hs0⟩ := okWide_struct Try.underlying25 (hval 0 25 v0 rfl rfl)
  have k0 := h0
  obtain ⟨f0, e0⟩ := h0
  obtain ⟨_, x0, r0, w0⟩ := o_Lap _ _ _ _ _ _ _ e0
  obtain ⟨n, hn⟩ := law x0 w0
  obtain ⟨u0_0, u0_1, u0_2, q0, s0_0, s0_1, s0_2⟩ := r0
  have q0 : cs0.toList = _ := q0
  obtain rfl : cs0 = _ := by rw [← Array.toArray_toList (xs := cs0), q0]
  have hlt : ∀ x ∈ p0 ++ [], x.block < W.heap.size := fun x hx => hW'.lt x (by simpa using hx)
  refine ((c_law03_LaysLeast n (hw W) x0 u0_0 s0_0 u0_1 s0_1 u0_2 s0_2 true hn) W (hw_le W)).mono fun e W' ⟨he, hb0⟩ => ?_
  have hb := hb0.plain rfl
  subst he
  refine ⟨_, rfl, _, _, _, [], p0 ++ [], [], hW', trodAll_cons_mk (shut_bool Try.underlying4 _) trodAll_mk0, ?_, rfl, hb.frame _, fun h => by cases h⟩
  exact trodAll_cons_mk (Below.trod cl_laidOut (by kernel_rfl) (of_decide_eq_true (by kernel_rfl)) k0 hb (fun x hx => hlt x (List.mem_append_left _ hx))) trodAll_mk0
set_option maxRecDepth 100000 in
theorem laysLeast_lifted (law : ∀ (x0 : Lap), W_Lap x0 → ∃ n, F_law03_LaysLeast n x0 = some true)
    (os : Os) (started : os.Started) (H : Type) (enc : TypeId × Value → H) :
    ReturnsInHanded {} Try.checked os 8 .any (Rows.laysLeastSpec.pre6 enc Try.prog Try.f8 Rows.laysLeastRow.domain false) (Rows.laysLeastSpec.post enc Try.prog Try.f8 false true false false) := by
  refine returnsInHanded_of_change (C := Try.checked) cl_own started (by kernel_rfl) Try.func8
    (ChangeSpec.witness6 (enc := enc) (C := Try.checked) false ⟨#[], #[.agg #[.int .i64 0, .int .i64 0, .slice none 0 0, .slice none 0 0, .slice none 0 0]], []⟩ 8 (by kernel_rfl) (by kernel_rfl) (by kernel_rfl) (by kernel_rfl)) ?_
  intro W base args ds gs before hval hW _ _
  exact laysLeast_contract law H enc W base args ds gs before hval hW
theorem laysLeast_holds (law : ∀ (x0 : Lap), W_Lap x0 → ∃ n, F_law03_LaysLeast n x0 = some true) : Rows.LaysLeastSaid :=
  OpenClaim.holds_of_wide 8 Try.f8 rfl rfl rfl rfl rfl rfl rfl ⟨rfl, rfl, rfl, rfl, rfl⟩ rfl rfl rfl rfl rfl (by kernel_rfl) Try.func8 (by kernel_rfl)
    (of_decide_eq_true (by kernel_rfl)) (by unfold Func.isWrapper; first | (rw [if_pos (by decide +kernel)]; kernel_rfl) | (rw [if_neg (by decide +kernel)]; exact ⟨rfl, rfl⟩))
    (fun os started H enc _ => laysLeast_lifted law os started H enc)
theorem laysLeast_proved : Rows.LaysLeastSaid := laysLeast_holds law_LaysLeast
end Go.Proofs.Ytflhjlgimihmgaa
end
