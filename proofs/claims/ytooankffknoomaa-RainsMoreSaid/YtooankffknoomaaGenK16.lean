/-
  Printed by a program: functions of the translation as plain functions, and their contracts.
-/
import Derived.Test.YtooankffknoomaaGenK15
namespace Go.Proofs.Ytooankffknoomaa
open Go Go.RowKit Go.Dec
set_option linter.unusedVariables false
-- 11 ferrule/ferrulelaw11.RainsLevels
def F_law11_RainsLevels (n : Nat) (t : Tour) (x_ : law11_Ask) : Option Bool :=
  (F_law11_Far n t).bind fun y3 => if y3 = true then ((F_law11_works n).bind fun y5 => some y5) else ((F_ref11_Copy n t).bind fun y6 => (F_rains_Check n y6).bind fun y12 => (F_ref11_Check n t).bind fun y13 => if (y12 != y13) = true then (some false) else ((F_rains_Fewest n y6).bind fun y15 => (F_ref11_Fewest n t).bind fun y16 => (F_rains_Many n y6).bind fun y17 => (F_ref11_Many n t).bind fun y18 => (F_rains_Levels n y6 x_.Day).bind fun y19 => (F_ref11_Levels n t x_.Day).bind fun y22 => (F_rains_Right n y6 x_.Rain).bind fun y25 => (F_ref11_Right n t x_.Rain).bind fun y26 => (if ((((y15.1 == y16.1) && (y15.2 == y16.2)) && (y17.1 == y18.1)) && (y17.2 == y18.2)) = true then ((F_law11_sameInts n y19.1 y22.1).bind fun y37 => some y37) else (some false) : Option Bool).bind fun p34 => (if (((p34 && (y19.2 == y22.2)) && (y25.1 == y26.1)) && (y25.2 == y26.2)) = true then ((F_law11_same n y6 t).bind fun y48 => some y48) else (some false) : Option Bool).bind fun p45 => (if p45 = true then ((F_law11_works n).bind fun y53 => some y53) else (some false) : Option Bool).bind fun p50 => some p50))
set_option maxRecDepth 100000 in
set_option maxHeartbeats 40000000 in
theorem c_law11_RainsLevels (n : Nat) (H : Hp) (t : Tour) (t_v2 : Value) (ht_2 : SL H 3 R_Rain t_v2 t.Rains) (t_v4 : Value) (ht_4 : SL H 2 R_Fair t_v4 t.Fairs) (x_ : law11_Ask) (y : Bool) (hF : F_law11_RainsLevels n t x_ = some y) : SC Try.prog 11 [.agg [.int .i64 t.Days, .int .i64 t.Step, t_v2, .int .i64 t.Wrong, t_v4, .int .i64 t.Reach, .int .i64 t.Stock].toArray, .agg [.int .i64 x_.Day, .int .i64 x_.Rain].toArray] (.bool y) H := by
  rw [F_law11_RainsLevels] at hF
  refine SC.of (N := 126) Try.func11 rfl rfl rfl fun w => ?_
  refine JC.seq ?_
  refine JC.region (by rfl) ?_
  intro hQ
  refine JL.box (cs := [.int .i64 t.Days, .int .i64 t.Step, t_v2, .int .i64 t.Wrong, t_v4, .int .i64 t.Reach, .int .i64 t.Stock]) rfl .none rfl ?_
  intro b1
  refine JL.box (cs := [.int .i64 x_.Day, .int .i64 x_.Rain]) rfl .none rfl ?_
  intro b2
  refine JL.assign .none rfl ?_
  refine JL.done hQ ?_
  refine JQ.go ?_
  refine JC.seq ?_
  refine JC.seq ?_
  refine JC.region (by rfl) ?_
  intro hQ
  refine JL.loadOwn 1 az_25 rfl rfl rfl .none rfl ?_
  obtain ⟨y3, hy3, hF⟩ := bind_some hF
  refine JL.callS (c_law11_Far n H t t_v2 ht_2 t_v4 ht_4 y3 hy3) rfl en_12 .none rfl ?_
  refine JL.done hQ ?_
  refine JQ.go ?_
  rcases ite_some hF with ⟨hc4, hF⟩ | ⟨hc4, hF⟩
  · refine JC.cond_t (b := y3) rfl hc4 ?_
    refine JC.seq ?_
    refine JC.region (by rfl) ?_
    intro hQ
    obtain ⟨y5, hy5, hF⟩ := bind_some hF
    refine JL.callS (c_law11_works n H y5 hy5) rfl en_13 .none rfl ?_
    refine JL.assign .none rfl ?_
    refine JL.done hQ ?_
    refine JQ.go ?_
    refine JC.ret ?_
    refine JQ.ret_then ?_
    obtain rfl := Option.some.inj hF
    exact JQ.outS rfl (.tmp .nil) rfl
  · refine JC.cond_f (b := y3) rfl hc4 ?_
    refine JC.skip ?_
    refine JQ.go ?_
    refine JC.seq ?_
    refine JC.region (by rfl) ?_
    intro hQ
    refine JL.loadOwn 1 az_25 rfl rfl rfl .none rfl ?_
    obtain ⟨y6, hy6, hF⟩ := bind_some hF
    refine JL.callH (c_ref11_Copy n H t t_v2 ht_2 t_v4 ht_4 y6 hy6) rfl en_14 .none rfl ?_
    rintro H7 vv8 hs7 ⟨y6a_v2, y6a_v4, rfl, hy6a_2, hy6a_4⟩
    refine JL.alloc ze_25 .none rfl ?_
    intro b9
    refine JL.storeOwn 0 (cs := [.int .i64 y6.Days, .int .i64 y6.Step, y6a_v2, .int .i64 y6.Wrong, y6a_v4, .int .i64 y6.Reach, .int .i64 y6.Stock]) az_25 rfl rfl rfl (one_cons rfl (one_cons rfl (one_cons (SL.one hy6a_2) (one_cons rfl (one_cons (SL.one hy6a_4) (one_cons rfl (one_cons rfl one_nil))))))) rfl rfl .none ?_
    refine JL.done hQ ?_
    refine JQ.go ?_
    refine JC.seq ?_
    refine JC.seq ?_
    refine JC.draw (by rfl) mo_ (by kernel_rfl) ?_
    intro hQ
    refine JL.loadOwn 0 az_25 rfl rfl rfl .none rfl ?_
    obtain ⟨y12, hy12, hF⟩ := bind_some hF
    refine JL.callS (c_rains_Check n H7 y6 y6a_v2 hy6a_2 y6a_v4 hy6a_4 y12 hy12) rfl en_37 .none rfl ?_
    refine JL.loadOwn 2 az_25 rfl rfl rfl .none rfl ?_
    obtain ⟨y13, hy13, hF⟩ := bind_some hF
    refine JL.callS (c_ref11_Check n H7 t t_v2 (SL.mono R_Rain_mono hs7 ht_2) t_v4 (SL.mono R_Fair_mono hs7 ht_4) y13 hy13) rfl en_38 .none rfl ?_
    refine JL.bin rfl rfl rfl .none rfl ?_
    refine JL.doneQ hQ ?_
    refine JQ.go ?_
    refine JC.fresh (fun f => f 2 = .pointer (some ⟨b1, 0, none⟩) ∧ f 3 = .pointer (some ⟨b2, 0, none⟩) ∧ f 4 = .bool false ∧ f 5 = .pointer (some ⟨b9, 0, none⟩) ∧ f 31 = .bool (y12 != y13)) ⟨rfl, rfl, rfl, rfl, rfl⟩ ?_
    rintro f ⟨hf2, hf3, hf4, hf5, hf31⟩
    refine (JC.norm (i := 2) hf2 (JC.norm (i := 3) hf3 (JC.norm (i := 4) hf4 (JC.norm (i := 5) hf5 (JC.norm (i := 31) hf31 ?_)))))
    rcases ite_some hF with ⟨hc14, hF⟩ | ⟨hc14, hF⟩
    · refine JC.cond_t (b := (y12 != y13)) rfl hc14 ?_
      refine JC.seq ?_
      refine JC.region (by rfl) ?_
      intro hQ
      refine JL.assign .none rfl ?_
      refine JL.done hQ ?_
      refine JQ.go ?_
      refine JC.ret ?_
      refine JQ.ret_then ?_
      obtain rfl := Option.some.inj hF
      exact JQ.outS rfl (.tmp .nil) rfl
    · refine JC.cond_f (b := (y12 != y13)) rfl hc14 ?_
      refine JC.skip ?_
      refine JQ.go ?_
      refine JC.seq ?_
      refine JC.region (by rfl) ?_
      intro hQ
      refine JL.loadOwn 0 az_25 rfl rfl rfl .none rfl ?_
      obtain ⟨y15, hy15, hF⟩ := bind_some hF
      refine JL.callS (c_rains_Fewest n H7 y6 y6a_v2 hy6a_2 y6a_v4 hy6a_4 y15 hy15) rfl en_28 .none rfl ?_
      refine JL.move .none rfl ?_
      refine JL.extract rfl rfl .none rfl ?_
      refine JL.extract rfl rfl .none rfl ?_
      refine JL.assign .none rfl ?_
      refine JL.assign .none rfl ?_
      refine JL.done hQ ?_
      refine JQ.go ?_
      refine JC.seq ?_
      refine JC.region (by rfl) ?_
      intro hQ
      refine JL.loadOwn 2 az_25 rfl rfl rfl .none rfl ?_
      obtain ⟨y16, hy16, hF⟩ := bind_some hF
      refine JL.callS (c_ref11_Fewest n H7 t t_v2 (SL.mono R_Rain_mono hs7 ht_2) t_v4 (SL.mono R_Fair_mono hs7 ht_4) y16 hy16) rfl en_39 .none rfl ?_
      refine JL.move .none rfl ?_
      refine JL.extract rfl rfl .none rfl ?_
      refine JL.extract rfl rfl .none rfl ?_
      refine JL.assign .none rfl ?_
      refine JL.assign .none rfl ?_
      refine JL.done hQ ?_
      refine JQ.go ?_
      refine JC.fresh (fun f => f 2 = .pointer (some ⟨b1, 0, none⟩) ∧ f 3 = .pointer (some ⟨b2, 0, none⟩) ∧ f 4 = .bool false ∧ f 5 = .pointer (some ⟨b9, 0, none⟩) ∧ f 6 = .int .i64 y15.1 ∧ f 7 = .int .i64 y15.2 ∧ f 8 = .int .i64 y16.1 ∧ f 9 = .int .i64 y16.2) ⟨rfl, rfl, rfl, rfl, rfl, rfl, rfl, rfl⟩ ?_
      rintro f ⟨hf2, hf3, hf4, hf5, hf6, hf7, hf8, hf9⟩
      refine (JC.norm (i := 2) hf2 (JC.norm (i := 3) hf3 (JC.norm (i := 4) hf4 (JC.norm (i := 5) hf5 (JC.norm (i := 6) hf6 (JC.norm (i := 7) hf7 (JC.norm (i := 8) hf8 (JC.norm (i := 9) hf9 ?_))))))))
      refine JC.seq ?_
      refine JC.region (by rfl) ?_
      intro hQ
      refine JL.loadOwn 0 az_25 rfl rfl rfl .none rfl ?_
      obtain ⟨y17, hy17, hF⟩ := bind_some hF
      refine JL.callS (c_rains_Many n H7 y6 y6a_v2 hy6a_2 y6a_v4 hy6a_4 y17 hy17) rfl en_29 .none rfl ?_
      refine JL.move .none rfl ?_
      refine JL.extract rfl rfl .none rfl ?_
      refine JL.extract rfl rfl .none rfl ?_
      refine JL.assign .none rfl ?_
      refine JL.assign .none rfl ?_
      refine JL.done hQ ?_
      refine JQ.go ?_
      refine JC.seq ?_
      refine JC.region (by rfl) ?_
      intro hQ
      refine JL.loadOwn 2 az_25 rfl rfl rfl .none rfl ?_
      obtain ⟨y18, hy18, hF⟩ := bind_some hF
      refine JL.callS (c_ref11_Many n H7 t t_v2 (SL.mono R_Rain_mono hs7 ht_2) t_v4 (SL.mono R_Fair_mono hs7 ht_4) y18 hy18) rfl en_40 .none rfl ?_
      refine JL.move .none rfl ?_
      refine JL.extract rfl rfl .none rfl ?_
      refine JL.extract rfl rfl .none rfl ?_
      refine JL.assign .none rfl ?_
      refine JL.assign .none rfl ?_
      refine JL.done hQ ?_
      refine JQ.go ?_
      refine JC.fresh (fun f => f 2 = .pointer (some ⟨b1, 0, none⟩) ∧ f 3 = .pointer (some ⟨b2, 0, none⟩) ∧ f 4 = .bool false ∧ f 5 = .pointer (some ⟨b9, 0, none⟩) ∧ f 6 = .int .i64 y15.1 ∧ f 7 = .int .i64 y15.2 ∧ f 8 = .int .i64 y16.1 ∧ f 9 = .int .i64 y16.2 ∧ f 10 = .int .i64 y17.1 ∧ f 11 = .int .i64 y17.2 ∧ f 12 = .int .i64 y18.1 ∧ f 13 = .int .i64 y18.2) ⟨rfl, rfl, rfl, rfl, rfl, rfl, rfl, rfl, rfl, rfl, rfl, rfl⟩ ?_
      rintro f ⟨hf2, hf3, hf4, hf5, hf6, hf7, hf8, hf9, hf10, hf11, hf12, hf13⟩
      refine (JC.norm (i := 2) hf2 (JC.norm (i := 3) hf3 (JC.norm (i := 4) hf4 (JC.norm (i := 5) hf5 (JC.norm (i := 6) hf6 (JC.norm (i := 7) hf7 (JC.norm (i := 8) hf8 (JC.norm (i := 9) hf9 (JC.norm (i := 10) hf10 (JC.norm (i := 11) hf11 (JC.norm (i := 12) hf12 (JC.norm (i := 13) hf13 ?_))))))))))))
      refine JC.seq ?_
      refine JC.region (by rfl) ?_
      intro hQ
      refine JL.loadOwn 0 az_25 rfl rfl rfl .none rfl ?_
      refine JL.fieldAddr fo_52_0 rfl .none rfl ?_
      refine JL.loadOwn 1 az_3 rfl rfl rfl .none rfl ?_
      obtain ⟨y19, hy19, hF⟩ := bind_some hF
      refine JL.callH (c_rains_Levels n H7 y6 y6a_v2 hy6a_2 y6a_v4 hy6a_4 x_.Day y19 hy19) rfl en_31 .none rfl ?_
      rintro H20 vv21 hs20 ⟨y19a_v0, rfl, hy19a_0⟩
      refine JL.move .none rfl ?_
      refine JL.extract rfl rfl .none rfl ?_
      refine JL.extract rfl rfl .none rfl ?_
      refine JL.assign .none rfl ?_
      refine JL.assign .none rfl ?_
      refine JL.done hQ ?_
      refine JQ.go ?_
      refine JC.seq ?_
      refine JC.region (by rfl) ?_
      intro hQ
      refine JL.loadOwn 2 az_25 rfl rfl rfl .none rfl ?_
      refine JL.fieldAddr fo_52_0 rfl .none rfl ?_
      refine JL.loadOwn 1 az_3 rfl rfl rfl .none rfl ?_
      obtain ⟨y22, hy22, hF⟩ := bind_some hF
      refine JL.callH (c_ref11_Levels n H20 t t_v2 (SL.mono R_Rain_mono (HSub.trans hs7 hs20) ht_2) t_v4 (SL.mono R_Fair_mono (HSub.trans hs7 hs20) ht_4) x_.Day y22 hy22) rfl en_41 .none rfl ?_
      rintro H23 vv24 hs23 ⟨y22a_v0, rfl, hy22a_0⟩
      refine JL.move .none rfl ?_
      refine JL.extract rfl rfl .none rfl ?_
      refine JL.extract rfl rfl .none rfl ?_
      refine JL.assign .none rfl ?_
      refine JL.assign .none rfl ?_
      refine JL.done hQ ?_
      refine JQ.go ?_
      refine JC.fresh (fun f => f 2 = .pointer (some ⟨b1, 0, none⟩) ∧ f 3 = .pointer (some ⟨b2, 0, none⟩) ∧ f 4 = .bool false ∧ f 5 = .pointer (some ⟨b9, 0, none⟩) ∧ f 6 = .int .i64 y15.1 ∧ f 7 = .int .i64 y15.2 ∧ f 8 = .int .i64 y16.1 ∧ f 9 = .int .i64 y16.2 ∧ f 10 = .int .i64 y17.1 ∧ f 11 = .int .i64 y17.2 ∧ f 12 = .int .i64 y18.1 ∧ f 13 = .int .i64 y18.2 ∧ f 14 = y19a_v0 ∧ f 15 = .int .i64 y19.2 ∧ f 16 = y22a_v0 ∧ f 17 = .int .i64 y22.2) ⟨rfl, rfl, rfl, rfl, rfl, rfl, rfl, rfl, rfl, rfl, rfl, rfl, rfl, rfl, rfl, rfl⟩ ?_
      rintro f ⟨hf2, hf3, hf4, hf5, hf6, hf7, hf8, hf9, hf10, hf11, hf12, hf13, hf14, hf15, hf16, hf17⟩
      refine (JC.norm (i := 2) hf2 (JC.norm (i := 3) hf3 (JC.norm (i := 4) hf4 (JC.norm (i := 5) hf5 (JC.norm (i := 6) hf6 (JC.norm (i := 7) hf7 (JC.norm (i := 8) hf8 (JC.norm (i := 9) hf9 (JC.norm (i := 10) hf10 (JC.norm (i := 11) hf11 (JC.norm (i := 12) hf12 (JC.norm (i := 13) hf13 (JC.norm (i := 14) hf14 (JC.norm (i := 15) hf15 (JC.norm (i := 16) hf16 (JC.norm (i := 17) hf17 ?_))))))))))))))))
      refine JC.seq ?_
      refine JC.region (by rfl) ?_
      intro hQ
      refine JL.loadOwn 0 az_25 rfl rfl rfl .none rfl ?_
      refine JL.fieldAddr fo_52_1 rfl .none rfl ?_
      refine JL.loadOwn 1 az_3 rfl rfl rfl .none rfl ?_
      obtain ⟨y25, hy25, hF⟩ := bind_some hF
      refine JL.callS (c_rains_Right n H23 y6 y6a_v2 (SL.mono R_Rain_mono (HSub.trans hs20 hs23) hy6a_2) y6a_v4 (SL.mono R_Fair_mono (HSub.trans hs20 hs23) hy6a_4) x_.Rain y25 hy25) rfl en_35 .none rfl ?_
      refine JL.move .none rfl ?_
      refine JL.extract rfl rfl .none rfl ?_
      refine JL.extract rfl rfl .none rfl ?_
      refine JL.assign .none rfl ?_
      refine JL.assign .none rfl ?_
      refine JL.done hQ ?_
      refine JQ.go ?_
      refine JC.seq ?_
      refine JC.region (by rfl) ?_
      intro hQ
      refine JL.loadOwn 2 az_25 rfl rfl rfl .none rfl ?_
      refine JL.fieldAddr fo_52_1 rfl .none rfl ?_
      refine JL.loadOwn 1 az_3 rfl rfl rfl .none rfl ?_
      obtain ⟨y26, hy26, hF⟩ := bind_some hF
      refine JL.callS (c_ref11_Right n H23 t t_v2 (SL.mono R_Rain_mono (HSub.trans hs7 (HSub.trans hs20 hs23)) ht_2) t_v4 (SL.mono R_Fair_mono (HSub.trans hs7 (HSub.trans hs20 hs23)) ht_4) x_.Rain y26 hy26) rfl en_42 .none rfl ?_
      refine JL.move .none rfl ?_
      refine JL.extract rfl rfl .none rfl ?_
      refine JL.extract rfl rfl .none rfl ?_
      refine JL.assign .none rfl ?_
      refine JL.assign .none rfl ?_
      refine JL.done hQ ?_
      refine JQ.go ?_
      refine JC.fresh (fun f => f 2 = .pointer (some ⟨b1, 0, none⟩) ∧ f 4 = .bool false ∧ f 5 = .pointer (some ⟨b9, 0, none⟩) ∧ f 6 = .int .i64 y15.1 ∧ f 7 = .int .i64 y15.2 ∧ f 8 = .int .i64 y16.1 ∧ f 9 = .int .i64 y16.2 ∧ f 10 = .int .i64 y17.1 ∧ f 11 = .int .i64 y17.2 ∧ f 12 = .int .i64 y18.1 ∧ f 13 = .int .i64 y18.2 ∧ f 14 = y19a_v0 ∧ f 15 = .int .i64 y19.2 ∧ f 16 = y22a_v0 ∧ f 17 = .int .i64 y22.2 ∧ f 18 = .int .i64 y25.1 ∧ f 19 = .int .i64 y25.2 ∧ f 20 = .int .i64 y26.1 ∧ f 21 = .int .i64 y26.2) ⟨rfl, rfl, rfl, rfl, rfl, rfl, rfl, rfl, rfl, rfl, rfl, rfl, rfl, rfl, rfl, rfl, rfl, rfl, rfl⟩ ?_
      rintro f ⟨hf2, hf4, hf5, hf6, hf7, hf8, hf9, hf10, hf11, hf12, hf13, hf14, hf15, hf16, hf17, hf18, hf19, hf20, hf21⟩
      refine (JC.norm (i := 2) hf2 (JC.norm (i := 4) hf4 (JC.norm (i := 5) hf5 (JC.norm (i := 6) hf6 (JC.norm (i := 7) hf7 (JC.norm (i := 8) hf8 (JC.norm (i := 9) hf9 (JC.norm (i := 10) hf10 (JC.norm (i := 11) hf11 (JC.norm (i := 12) hf12 (JC.norm (i := 13) hf13 (JC.norm (i := 14) hf14 (JC.norm (i := 15) hf15 (JC.norm (i := 16) hf16 (JC.norm (i := 17) hf17 (JC.norm (i := 18) hf18 (JC.norm (i := 19) hf19 (JC.norm (i := 20) hf20 (JC.norm (i := 21) hf21 ?_)))))))))))))))))))
      refine JC.seq ?_
      refine JC.region (by rfl) ?_
      intro hQ
      refine JL.move .none rfl ?_
      refine JL.move .none rfl ?_
      refine JL.bin rfl rfl rfl .none rfl ?_
      refine JL.move .none rfl ?_
      refine JL.cut 4 (fun f => f 2 = .pointer (some ⟨b1, 0, none⟩) ∧ f 5 = .pointer (some ⟨b9, 0, none⟩) ∧ f 10 = .int .i64 y17.1 ∧ f 11 = .int .i64 y17.2 ∧ f 12 = .int .i64 y18.1 ∧ f 13 = .int .i64 y18.2 ∧ f 14 = y19a_v0 ∧ f 15 = .int .i64 y19.2 ∧ f 16 = y22a_v0 ∧ f 17 = .int .i64 y22.2 ∧ f 18 = .int .i64 y25.1 ∧ f 19 = .int .i64 y25.2 ∧ f 20 = .int .i64 y26.1 ∧ f 21 = .int .i64 y26.2 ∧ f 87 = .bool ((y15.1 == y16.1) && (y15.2 == y16.2))) ?_ ?_
      · intro hJ27
        rcases bcases (y15.1 == y16.1) with hc28 | hc28
        · skip
          refine JL.move (.some rfl rfl rfl hc28) rfl ?_
          refine JL.move (.some rfl rfl rfl hc28) rfl ?_
          refine JL.bin rfl rfl rfl (.some rfl rfl rfl hc28) rfl ?_
          refine JL.pick_t (b := (y15.1 == y16.1)) rfl hc28 .none rfl ?_
          exact hJ27 _ ⟨rfl, rfl, rfl, rfl, rfl, rfl, rfl, rfl, rfl, rfl, rfl, rfl, rfl, rfl, and_t hc28 rfl⟩
        · skip
          refine JL.skip (.bool rfl rfl rfl hc28) rfl ?_
          refine JL.skip (.bool rfl rfl rfl hc28) rfl ?_
          refine JL.skip (.bool rfl rfl rfl hc28) rfl ?_
          refine JL.pick_f (b := (y15.1 == y16.1)) rfl hc28 .none rfl ?_
          exact hJ27 _ ⟨rfl, rfl, rfl, rfl, rfl, rfl, rfl, rfl, rfl, rfl, rfl, rfl, rfl, rfl, and_f hc28 rfl⟩
      · rintro f ⟨hf2, hf5, hf10, hf11, hf12, hf13, hf14, hf15, hf16, hf17, hf18, hf19, hf20, hf21, hf87⟩
        refine (JL.norm (i := 2) hf2 (JL.norm (i := 5) hf5 (JL.norm (i := 10) hf10 (JL.norm (i := 11) hf11 (JL.norm (i := 12) hf12 (JL.norm (i := 13) hf13 (JL.norm (i := 14) hf14 (JL.norm (i := 15) hf15 (JL.norm (i := 16) hf16 (JL.norm (i := 17) hf17 (JL.norm (i := 18) hf18 (JL.norm (i := 19) hf19 (JL.norm (i := 20) hf20 (JL.norm (i := 21) hf21 (JL.norm (i := 87) hf87 ?_)))))))))))))))
        refine JL.move .none rfl ?_
        refine JL.cut 4 (fun f => f 2 = .pointer (some ⟨b1, 0, none⟩) ∧ f 5 = .pointer (some ⟨b9, 0, none⟩) ∧ f 11 = .int .i64 y17.2 ∧ f 13 = .int .i64 y18.2 ∧ f 14 = y19a_v0 ∧ f 15 = .int .i64 y19.2 ∧ f 16 = y22a_v0 ∧ f 17 = .int .i64 y22.2 ∧ f 18 = .int .i64 y25.1 ∧ f 19 = .int .i64 y25.2 ∧ f 20 = .int .i64 y26.1 ∧ f 21 = .int .i64 y26.2 ∧ f 92 = .bool (((y15.1 == y16.1) && (y15.2 == y16.2)) && (y17.1 == y18.1))) ?_ ?_
        · intro hJ29
          rcases bcases ((y15.1 == y16.1) && (y15.2 == y16.2)) with hc30 | hc30
          · skip
            refine JL.move (.some rfl rfl rfl hc30) rfl ?_
            refine JL.move (.some rfl rfl rfl hc30) rfl ?_
            refine JL.bin rfl rfl rfl (.some rfl rfl rfl hc30) rfl ?_
            refine JL.pick_t (b := ((y15.1 == y16.1) && (y15.2 == y16.2))) rfl hc30 .none rfl ?_
            exact hJ29 _ ⟨rfl, rfl, rfl, rfl, rfl, rfl, rfl, rfl, rfl, rfl, rfl, rfl, and_t hc30 rfl⟩
          · skip
            refine JL.skip (.bool rfl rfl rfl hc30) rfl ?_
            refine JL.skip (.bool rfl rfl rfl hc30) rfl ?_
            refine JL.skip (.bool rfl rfl rfl hc30) rfl ?_
            refine JL.pick_f (b := ((y15.1 == y16.1) && (y15.2 == y16.2))) rfl hc30 .none rfl ?_
            exact hJ29 _ ⟨rfl, rfl, rfl, rfl, rfl, rfl, rfl, rfl, rfl, rfl, rfl, rfl, and_f hc30 rfl⟩
        · rintro f ⟨hf2, hf5, hf11, hf13, hf14, hf15, hf16, hf17, hf18, hf19, hf20, hf21, hf92⟩
          refine (JL.norm (i := 2) hf2 (JL.norm (i := 5) hf5 (JL.norm (i := 11) hf11 (JL.norm (i := 13) hf13 (JL.norm (i := 14) hf14 (JL.norm (i := 15) hf15 (JL.norm (i := 16) hf16 (JL.norm (i := 17) hf17 (JL.norm (i := 18) hf18 (JL.norm (i := 19) hf19 (JL.norm (i := 20) hf20 (JL.norm (i := 21) hf21 (JL.norm (i := 92) hf92 ?_)))))))))))))
          refine JL.move .none rfl ?_
          refine JL.cut 4 (fun f => f 2 = .pointer (some ⟨b1, 0, none⟩) ∧ f 5 = .pointer (some ⟨b9, 0, none⟩) ∧ f 14 = y19a_v0 ∧ f 15 = .int .i64 y19.2 ∧ f 16 = y22a_v0 ∧ f 17 = .int .i64 y22.2 ∧ f 18 = .int .i64 y25.1 ∧ f 19 = .int .i64 y25.2 ∧ f 20 = .int .i64 y26.1 ∧ f 21 = .int .i64 y26.2 ∧ f 97 = .bool ((((y15.1 == y16.1) && (y15.2 == y16.2)) && (y17.1 == y18.1)) && (y17.2 == y18.2))) ?_ ?_
          · intro hJ31
            rcases bcases (((y15.1 == y16.1) && (y15.2 == y16.2)) && (y17.1 == y18.1)) with hc32 | hc32
            · skip
              refine JL.move (.some rfl rfl rfl hc32) rfl ?_
              refine JL.move (.some rfl rfl rfl hc32) rfl ?_
              refine JL.bin rfl rfl rfl (.some rfl rfl rfl hc32) rfl ?_
              refine JL.pick_t (b := (((y15.1 == y16.1) && (y15.2 == y16.2)) && (y17.1 == y18.1))) rfl hc32 .none rfl ?_
              exact hJ31 _ ⟨rfl, rfl, rfl, rfl, rfl, rfl, rfl, rfl, rfl, rfl, and_t hc32 rfl⟩
            · skip
              refine JL.skip (.bool rfl rfl rfl hc32) rfl ?_
              refine JL.skip (.bool rfl rfl rfl hc32) rfl ?_
              refine JL.skip (.bool rfl rfl rfl hc32) rfl ?_
              refine JL.pick_f (b := (((y15.1 == y16.1) && (y15.2 == y16.2)) && (y17.1 == y18.1))) rfl hc32 .none rfl ?_
              exact hJ31 _ ⟨rfl, rfl, rfl, rfl, rfl, rfl, rfl, rfl, rfl, rfl, and_f hc32 rfl⟩
          · rintro f ⟨hf2, hf5, hf14, hf15, hf16, hf17, hf18, hf19, hf20, hf21, hf97⟩
            refine (JL.norm (i := 2) hf2 (JL.norm (i := 5) hf5 (JL.norm (i := 14) hf14 (JL.norm (i := 15) hf15 (JL.norm (i := 16) hf16 (JL.norm (i := 17) hf17 (JL.norm (i := 18) hf18 (JL.norm (i := 19) hf19 (JL.norm (i := 20) hf20 (JL.norm (i := 21) hf21 (JL.norm (i := 97) hf97 ?_)))))))))))
            refine JL.move .none rfl ?_
            obtain ⟨p34, hp34, hF⟩ := bind_some hF
            refine JL.cut 4 (fun f => f 2 = .pointer (some ⟨b1, 0, none⟩) ∧ f 5 = .pointer (some ⟨b9, 0, none⟩) ∧ f 15 = .int .i64 y19.2 ∧ f 17 = .int .i64 y22.2 ∧ f 18 = .int .i64 y25.1 ∧ f 19 = .int .i64 y25.2 ∧ f 20 = .int .i64 y26.1 ∧ f 21 = .int .i64 y26.2 ∧ f 102 = .bool p34) ?_ ?_
            · intro hJ35
              rcases ite_some hp34 with ⟨hc36, hF⟩ | ⟨hc36, hF⟩
              · skip
                refine JL.move (.some rfl rfl rfl hc36) rfl ?_
                refine JL.move (.some rfl rfl rfl hc36) rfl ?_
                obtain ⟨y37, hy37, hF⟩ := bind_some hF
                refine JL.callS (c_law11_sameInts n H23 y19.1 y19a_v0 (SL.mono RInt.mono hs23 hy19a_0) y22.1 y22a_v0 hy22a_0 y37 hy37) rfl en_43 (.some rfl rfl rfl hc36) rfl ?_
                refine JL.pick_t (b := ((((y15.1 == y16.1) && (y15.2 == y16.2)) && (y17.1 == y18.1)) && (y17.2 == y18.2))) rfl hc36 .none rfl ?_
                obtain rfl := Option.some.inj hF
                exact hJ35 _ ⟨rfl, rfl, rfl, rfl, rfl, rfl, rfl, rfl, rfl⟩
              · skip
                refine JL.skip (.bool rfl rfl rfl hc36) rfl ?_
                refine JL.skip (.bool rfl rfl rfl hc36) rfl ?_
                refine JL.skip (.bool rfl rfl rfl hc36) rfl ?_
                refine JL.pick_f (b := ((((y15.1 == y16.1) && (y15.2 == y16.2)) && (y17.1 == y18.1)) && (y17.2 == y18.2))) rfl hc36 .none rfl ?_
                obtain rfl := Option.some.inj hF
                exact hJ35 _ ⟨rfl, rfl, rfl, rfl, rfl, rfl, rfl, rfl, rfl⟩
            · rintro f ⟨hf2, hf5, hf15, hf17, hf18, hf19, hf20, hf21, hf102⟩
              refine (JL.norm (i := 2) hf2 (JL.norm (i := 5) hf5 (JL.norm (i := 15) hf15 (JL.norm (i := 17) hf17 (JL.norm (i := 18) hf18 (JL.norm (i := 19) hf19 (JL.norm (i := 20) hf20 (JL.norm (i := 21) hf21 (JL.norm (i := 102) hf102 ?_)))))))))
              refine JL.move .none rfl ?_
              refine JL.cut 4 (fun f => f 2 = .pointer (some ⟨b1, 0, none⟩) ∧ f 5 = .pointer (some ⟨b9, 0, none⟩) ∧ f 18 = .int .i64 y25.1 ∧ f 19 = .int .i64 y25.2 ∧ f 20 = .int .i64 y26.1 ∧ f 21 = .int .i64 y26.2 ∧ f 107 = .bool (p34 && (y19.2 == y22.2))) ?_ ?_
              · intro hJ38
                rcases bcases p34 with hc39 | hc39
                · skip
                  refine JL.move (.some rfl rfl rfl hc39) rfl ?_
                  refine JL.move (.some rfl rfl rfl hc39) rfl ?_
                  refine JL.bin rfl rfl rfl (.some rfl rfl rfl hc39) rfl ?_
                  refine JL.pick_t (b := p34) rfl hc39 .none rfl ?_
                  exact hJ38 _ ⟨rfl, rfl, rfl, rfl, rfl, rfl, and_t hc39 rfl⟩
                · skip
                  refine JL.skip (.bool rfl rfl rfl hc39) rfl ?_
                  refine JL.skip (.bool rfl rfl rfl hc39) rfl ?_
                  refine JL.skip (.bool rfl rfl rfl hc39) rfl ?_
                  refine JL.pick_f (b := p34) rfl hc39 .none rfl ?_
                  exact hJ38 _ ⟨rfl, rfl, rfl, rfl, rfl, rfl, and_f hc39 rfl⟩
              · rintro f ⟨hf2, hf5, hf18, hf19, hf20, hf21, hf107⟩
                refine (JL.norm (i := 2) hf2 (JL.norm (i := 5) hf5 (JL.norm (i := 18) hf18 (JL.norm (i := 19) hf19 (JL.norm (i := 20) hf20 (JL.norm (i := 21) hf21 (JL.norm (i := 107) hf107 ?_)))))))
                refine JL.move .none rfl ?_
                refine JL.cut 4 (fun f => f 2 = .pointer (some ⟨b1, 0, none⟩) ∧ f 5 = .pointer (some ⟨b9, 0, none⟩) ∧ f 19 = .int .i64 y25.2 ∧ f 21 = .int .i64 y26.2 ∧ f 112 = .bool ((p34 && (y19.2 == y22.2)) && (y25.1 == y26.1))) ?_ ?_
                · intro hJ40
                  rcases bcases (p34 && (y19.2 == y22.2)) with hc41 | hc41
                  · skip
                    refine JL.move (.some rfl rfl rfl hc41) rfl ?_
                    refine JL.move (.some rfl rfl rfl hc41) rfl ?_
                    refine JL.bin rfl rfl rfl (.some rfl rfl rfl hc41) rfl ?_
                    refine JL.pick_t (b := (p34 && (y19.2 == y22.2))) rfl hc41 .none rfl ?_
                    exact hJ40 _ ⟨rfl, rfl, rfl, rfl, and_t hc41 rfl⟩
                  · skip
                    refine JL.skip (.bool rfl rfl rfl hc41) rfl ?_
                    refine JL.skip (.bool rfl rfl rfl hc41) rfl ?_
                    refine JL.skip (.bool rfl rfl rfl hc41) rfl ?_
                    refine JL.pick_f (b := (p34 && (y19.2 == y22.2))) rfl hc41 .none rfl ?_
                    exact hJ40 _ ⟨rfl, rfl, rfl, rfl, and_f hc41 rfl⟩
                · rintro f ⟨hf2, hf5, hf19, hf21, hf112⟩
                  refine (JL.norm (i := 2) hf2 (JL.norm (i := 5) hf5 (JL.norm (i := 19) hf19 (JL.norm (i := 21) hf21 (JL.norm (i := 112) hf112 ?_)))))
                  refine JL.move .none rfl ?_
                  refine JL.cut 4 (fun f => f 2 = .pointer (some ⟨b1, 0, none⟩) ∧ f 5 = .pointer (some ⟨b9, 0, none⟩) ∧ f 117 = .bool (((p34 && (y19.2 == y22.2)) && (y25.1 == y26.1)) && (y25.2 == y26.2))) ?_ ?_
                  · intro hJ42
                    rcases bcases ((p34 && (y19.2 == y22.2)) && (y25.1 == y26.1)) with hc43 | hc43
                    · skip
                      refine JL.move (.some rfl rfl rfl hc43) rfl ?_
                      refine JL.move (.some rfl rfl rfl hc43) rfl ?_
                      refine JL.bin rfl rfl rfl (.some rfl rfl rfl hc43) rfl ?_
                      refine JL.pick_t (b := ((p34 && (y19.2 == y22.2)) && (y25.1 == y26.1))) rfl hc43 .none rfl ?_
                      exact hJ42 _ ⟨rfl, rfl, and_t hc43 rfl⟩
                    · skip
                      refine JL.skip (.bool rfl rfl rfl hc43) rfl ?_
                      refine JL.skip (.bool rfl rfl rfl hc43) rfl ?_
                      refine JL.skip (.bool rfl rfl rfl hc43) rfl ?_
                      refine JL.pick_f (b := ((p34 && (y19.2 == y22.2)) && (y25.1 == y26.1))) rfl hc43 .none rfl ?_
                      exact hJ42 _ ⟨rfl, rfl, and_f hc43 rfl⟩
                  · rintro f ⟨hf2, hf5, hf117⟩
                    refine (JL.norm (i := 2) hf2 (JL.norm (i := 5) hf5 (JL.norm (i := 117) hf117 ?_)))
                    refine JL.move .none rfl ?_
                    obtain ⟨p45, hp45, hF⟩ := bind_some hF
                    refine JL.cut 4 (fun f => f 122 = .bool p45) ?_ ?_
                    · intro hJ46
                      rcases ite_some hp45 with ⟨hc47, hF⟩ | ⟨hc47, hF⟩
                      · skip
                        refine JL.loadOwn 0 az_25 rfl rfl rfl (.some rfl rfl rfl hc47) rfl ?_
                        refine JL.loadOwn 2 az_25 rfl rfl rfl (.some rfl rfl rfl hc47) rfl ?_
                        obtain ⟨y48, hy48, hF⟩ := bind_some hF
                        refine JL.callS (c_law11_same n H23 y6 y6a_v2 (SL.mono R_Rain_mono (HSub.trans hs20 hs23) hy6a_2) y6a_v4 (SL.mono R_Fair_mono (HSub.trans hs20 hs23) hy6a_4) t t_v2 (SL.mono R_Rain_mono (HSub.trans hs7 (HSub.trans hs20 hs23)) ht_2) t_v4 (SL.mono R_Fair_mono (HSub.trans hs7 (HSub.trans hs20 hs23)) ht_4) y48 hy48) rfl en_44 (.some rfl rfl rfl hc47) rfl ?_
                        refine JL.pick_t (b := (((p34 && (y19.2 == y22.2)) && (y25.1 == y26.1)) && (y25.2 == y26.2))) rfl hc47 .none rfl ?_
                        obtain rfl := Option.some.inj hF
                        exact hJ46 _ (rfl)
                      · skip
                        refine JL.skip (.bool rfl rfl rfl hc47) rfl ?_
                        refine JL.skip (.bool rfl rfl rfl hc47) rfl ?_
                        refine JL.skip (.bool rfl rfl rfl hc47) rfl ?_
                        refine JL.pick_f (b := (((p34 && (y19.2 == y22.2)) && (y25.1 == y26.1)) && (y25.2 == y26.2))) rfl hc47 .none rfl ?_
                        obtain rfl := Option.some.inj hF
                        exact hJ46 _ (rfl)
                    · rintro f hf122
                      refine (JL.norm (i := 122) hf122 ?_)
                      refine JL.move .none rfl ?_
                      obtain ⟨p50, hp50, hF⟩ := bind_some hF
                      refine JL.cut 2 (fun f => f 125 = .bool p50) ?_ ?_
                      · intro hJ51
                        rcases ite_some hp50 with ⟨hc52, hF⟩ | ⟨hc52, hF⟩
                        · skip
                          obtain ⟨y53, hy53, hF⟩ := bind_some hF
                          refine JL.callS (c_law11_works n H23 y53 hy53) rfl en_13 (.some rfl rfl rfl hc52) rfl ?_
                          refine JL.pick_t (b := p45) rfl hc52 .none rfl ?_
                          obtain rfl := Option.some.inj hF
                          exact hJ51 _ (rfl)
                        · skip
                          refine JL.skip (.bool rfl rfl rfl hc52) rfl ?_
                          refine JL.pick_f (b := p45) rfl hc52 .none rfl ?_
                          obtain rfl := Option.some.inj hF
                          exact hJ51 _ (rfl)
                      · rintro f hf125
                        refine (JL.norm (i := 125) hf125 ?_)
                        refine JL.assign .none rfl ?_
                        refine JL.done hQ ?_
                        refine JQ.go ?_
                        refine JC.ret ?_
                        obtain rfl := Option.some.inj hF
                        exact JQ.outS rfl (.tmp .nil) rfl

end Go.Proofs.Ytooankffknoomaa
