/-
  Printed by a program: functions of the translation as plain functions, and their contracts.
-/
import Derived.Test.YtcpnnfdhafbemaaGenK14
namespace Go.Proofs.Ytcpnnfdhafbemaa
open Go Go.RowKit Go.Dec
set_option linter.unusedVariables false
-- 4 ferrule/ferrulelaw05.GustsLoads
def F_law05_GustsLoads (n : Nat) (d : Canopy) (g : Gust) : Option Bool :=
  (F_law05_Far n d).bind fun y3 => if y3 = true then ((F_law05_works n).bind fun y5 => some y5) else ((F_ref05_Copy n d).bind fun y6 => (F_gusts_Check n y6).bind fun y12 => (F_ref05_Check n d).bind fun y13 => if (y12 != y13) = true then (some false) else ((F_gusts_Lift n y6).bind fun y15 => (F_ref05_Lift n d).bind fun y17 => (F_gusts_Loads n y6 g).bind fun y19 => (F_ref05_Loads n d g).bind fun y22 => (F_gusts_Goes n y6 g).bind fun y25 => (F_ref05_Goes n d g).bind fun y28 => (if (((y15.1.Low == y17.1.Low) && (y15.1.High == y17.1.High)) && (y15.2 == y17.2)) = true then ((F_law05_sameSpans n y19.1 y22.1).bind fun y37 => some y37) else (some false) : Option Bool).bind fun p34 => (if (p34 && (y19.2 == y22.2)) = true then ((F_law05_sameInts n y25.1 y28.1).bind fun y44 => some y44) else (some false) : Option Bool).bind fun p41 => (if p41 = true then ((F_law05_sameInts n y25.2.1 y28.2.1).bind fun y49 => some y49) else (some false) : Option Bool).bind fun p46 => (if (p46 && (y25.2.2 == y28.2.2)) = true then ((F_law05_sameSpans n y6.Ribs d.Ribs).bind fun y56 => some y56) else (some false) : Option Bool).bind fun p53 => (if p53 = true then ((F_law05_sameInts n y6.Shares d.Shares).bind fun y61 => some y61) else (some false) : Option Bool).bind fun p58 => (if p58 = true then ((F_law05_works n).bind fun y66 => some y66) else (some false) : Option Bool).bind fun p63 => some p63))
set_option maxRecDepth 100000 in
set_option maxHeartbeats 40000000 in
theorem c_law05_GustsLoads (n : Nat) (H : Hp) (d : Canopy) (d_v0 : Value) (hd_0 : SL H 7 R_Section d_v0 d.Frame.Sections) (d_v7 : Value) (hd_7 : SL H 2 R_Span d_v7 d.Ribs) (d_v8 : Value) (hd_8 : SL H 1 RInt d_v8 d.Shares) (g : Gust) (y : Bool) (hF : F_law05_GustsLoads n d g = some y) : SC Try.prog 4 [.agg [d_v0, .int .i64 d.Frame.Low, .int .i64 d.Frame.High, .int .i64 d.Frame.Ease.Num, .int .i64 d.Frame.Ease.Den, .int .i64 d.Frame.Rod, .int .i64 d.Frame.Case, d_v7, d_v8].toArray, .agg [.int .i64 g.Force, .int .i64 g.At].toArray] (.bool y) H := by
  rw [F_law05_GustsLoads] at hF
  refine SC.of (N := 116) Try.func4 rfl rfl rfl fun w => ?_
  refine JC.seq ?_
  refine JC.region (by rfl) ?_
  intro hQ
  refine JL.box (cs := [d_v0, .int .i64 d.Frame.Low, .int .i64 d.Frame.High, .int .i64 d.Frame.Ease.Num, .int .i64 d.Frame.Ease.Den, .int .i64 d.Frame.Rod, .int .i64 d.Frame.Case, d_v7, d_v8]) rfl .none rfl ?_
  intro b1
  refine JL.box (cs := [.int .i64 g.Force, .int .i64 g.At]) rfl .none rfl ?_
  intro b2
  refine JL.assign .none rfl ?_
  refine JL.done hQ ?_
  refine JQ.go ?_
  refine JC.seq ?_
  refine JC.seq ?_
  refine JC.region (by rfl) ?_
  intro hQ
  refine JL.loadOwn 1 az_30 rfl rfl rfl .none rfl ?_
  obtain ⟨y3, hy3, hF⟩ := bind_some hF
  refine JL.callS (c_law05_Far n H d d_v0 hd_0 d_v7 hd_7 d_v8 hd_8 y3 hy3) rfl en_16 .none rfl ?_
  refine JL.done hQ ?_
  refine JQ.go ?_
  rcases ite_some hF with ⟨hc4, hF⟩ | ⟨hc4, hF⟩
  · refine JC.cond_t (b := y3) rfl hc4 ?_
    refine JC.seq ?_
    refine JC.region (by rfl) ?_
    intro hQ
    obtain ⟨y5, hy5, hF⟩ := bind_some hF
    refine JL.callS (c_law05_works n H y5 hy5) rfl en_12 .none rfl ?_
    refine JL.assign .none rfl ?_
    refine JL.done hQ ?_
    refine JQ.go ?_
    refine JC.ret ?_
    refine JQ.ret_then ?_
    obtain rfl := Option.some.inj hF
    exact JQ.outS rfl (.tmp .nil) rfl
  · refine JC.cond_f (b := y3) rfl hc4 ?_
    refine JC.skip ?_
    refine JQ.go ?_
    refine JC.seq ?_
    refine JC.region (by rfl) ?_
    intro hQ
    refine JL.loadOwn 1 az_30 rfl rfl rfl .none rfl ?_
    obtain ⟨y6, hy6, hF⟩ := bind_some hF
    refine JL.callH (c_ref05_Copy n H d d_v0 hd_0 d_v7 hd_7 d_v8 hd_8 y6 hy6) rfl en_13 .none rfl ?_
    rintro H7 vv8 hs7 ⟨y6a_v0, y6a_v7, y6a_v8, rfl, hy6a_0, hy6a_7, hy6a_8⟩
    refine JL.alloc ze_30 .none rfl ?_
    intro b9
    refine JL.storeOwn 0 (cs := [y6a_v0, .int .i64 y6.Frame.Low, .int .i64 y6.Frame.High, .int .i64 y6.Frame.Ease.Num, .int .i64 y6.Frame.Ease.Den, .int .i64 y6.Frame.Rod, .int .i64 y6.Frame.Case, y6a_v7, y6a_v8]) az_30 rfl rfl rfl (one_cons (SL.one hy6a_0) (one_cons rfl (one_cons rfl (one_cons rfl (one_cons rfl (one_cons rfl (one_cons rfl (one_cons (SL.one hy6a_7) (one_cons (SL.one hy6a_8) one_nil))))))))) rfl rfl .none ?_
    refine JL.done hQ ?_
    refine JQ.go ?_
    refine JC.seq ?_
    refine JC.seq ?_
    refine JC.draw (by rfl) mo_ (by kernel_rfl) ?_
    intro hQ
    refine JL.loadOwn 0 az_30 rfl rfl rfl .none rfl ?_
    obtain ⟨y12, hy12, hF⟩ := bind_some hF
    refine JL.callS (c_gusts_Check n H7 y6 y6a_v0 hy6a_0 y6a_v7 hy6a_7 y6a_v8 hy6a_8 y12 hy12) rfl en_17 .none rfl ?_
    refine JL.loadOwn 2 az_30 rfl rfl rfl .none rfl ?_
    obtain ⟨y13, hy13, hF⟩ := bind_some hF
    refine JL.callS (c_ref05_Check n H7 d d_v0 (SL.mono R_Section_mono hs7 hd_0) d_v7 (SL.mono R_Span_mono hs7 hd_7) d_v8 (SL.mono RInt.mono hs7 hd_8) y13 hy13) rfl en_18 .none rfl ?_
    refine JL.bin rfl rfl rfl .none rfl ?_
    refine JL.doneQ hQ ?_
    refine JQ.go ?_
    refine JC.fresh (fun f => f 2 = .pointer (some ⟨b1, 0, none⟩) ∧ f 3 = .pointer (some ⟨b2, 0, none⟩) ∧ f 4 = .bool false ∧ f 5 = .pointer (some ⟨b9, 0, none⟩) ∧ f 29 = .bool (y12 != y13)) ⟨rfl, rfl, rfl, rfl, rfl⟩ ?_
    rintro f ⟨hf2, hf3, hf4, hf5, hf29⟩
    refine (JC.norm (i := 2) hf2 (JC.norm (i := 3) hf3 (JC.norm (i := 4) hf4 (JC.norm (i := 5) hf5 (JC.norm (i := 29) hf29 ?_)))))
    rcases ite_some hF with ⟨hc14, hF⟩ | ⟨hc14, hF⟩
    · refine JC.cond_t (b := (y12 != y13)) rfl hc14 ?_
      refine JC.seq ?_
      refine JC.region (by rfl) ?_
      intro hQ
      refine JL.assign .none rfl ?_
      refine JL.done hQ ?_
      refine JQ.go ?_
      refine JC.ret ?_
      refine JQ.ret_then ?_
      obtain rfl := Option.some.inj hF
      exact JQ.outS rfl (.tmp .nil) rfl
    · refine JC.cond_f (b := (y12 != y13)) rfl hc14 ?_
      refine JC.skip ?_
      refine JQ.go ?_
      refine JC.seq ?_
      refine JC.region (by rfl) ?_
      intro hQ
      refine JL.loadOwn 0 az_30 rfl rfl rfl .none rfl ?_
      obtain ⟨y15, hy15, hF⟩ := bind_some hF
      refine JL.callS (c_gusts_Lift n H7 y6 y6a_v0 hy6a_0 y6a_v7 hy6a_7 y6a_v8 hy6a_8 y15 hy15) rfl en_19 .none rfl ?_
      refine JL.move .none rfl ?_
      refine JL.extract rfl rfl .none rfl ?_
      refine JL.extract rfl rfl .none rfl ?_
      refine JL.alloc ze_38 .none rfl ?_
      intro b16
      refine JL.storeOwn 0 (cs := [.int .i64 y15.1.Low, .int .i64 y15.1.High]) az_38 rfl rfl rfl (one_cons rfl (one_cons rfl one_nil)) rfl rfl .none ?_
      refine JL.assign .none rfl ?_
      refine JL.done hQ ?_
      refine JQ.go ?_
      refine JC.seq ?_
      refine JC.region (by rfl) ?_
      intro hQ
      refine JL.loadOwn 3 az_30 rfl rfl rfl .none rfl ?_
      obtain ⟨y17, hy17, hF⟩ := bind_some hF
      refine JL.callS (c_ref05_Lift n H7 d d_v0 (SL.mono R_Section_mono hs7 hd_0) d_v7 (SL.mono R_Span_mono hs7 hd_7) d_v8 (SL.mono RInt.mono hs7 hd_8) y17 hy17) rfl en_20 .none rfl ?_
      refine JL.move .none rfl ?_
      refine JL.extract rfl rfl .none rfl ?_
      refine JL.extract rfl rfl .none rfl ?_
      refine JL.alloc ze_38 .none rfl ?_
      intro b18
      refine JL.storeOwn 0 (cs := [.int .i64 y17.1.Low, .int .i64 y17.1.High]) az_38 rfl rfl rfl (one_cons rfl (one_cons rfl one_nil)) rfl rfl .none ?_
      refine JL.assign .none rfl ?_
      refine JL.done hQ ?_
      refine JQ.go ?_
      refine JC.fresh (fun f => f 2 = .pointer (some ⟨b1, 0, none⟩) ∧ f 3 = .pointer (some ⟨b2, 0, none⟩) ∧ f 4 = .bool false ∧ f 5 = .pointer (some ⟨b9, 0, none⟩) ∧ f 6 = .pointer (some ⟨b16, 0, none⟩) ∧ f 7 = .int .i64 y15.2 ∧ f 8 = .pointer (some ⟨b18, 0, none⟩) ∧ f 9 = .int .i64 y17.2) ⟨rfl, rfl, rfl, rfl, rfl, rfl, rfl, rfl⟩ ?_
      rintro f ⟨hf2, hf3, hf4, hf5, hf6, hf7, hf8, hf9⟩
      refine (JC.norm (i := 2) hf2 (JC.norm (i := 3) hf3 (JC.norm (i := 4) hf4 (JC.norm (i := 5) hf5 (JC.norm (i := 6) hf6 (JC.norm (i := 7) hf7 (JC.norm (i := 8) hf8 (JC.norm (i := 9) hf9 ?_))))))))
      refine JC.seq ?_
      refine JC.region (by rfl) ?_
      intro hQ
      refine JL.loadOwn 2 az_30 rfl rfl rfl .none rfl ?_
      refine JL.loadOwn 3 az_32 rfl rfl rfl .none rfl ?_
      obtain ⟨y19, hy19, hF⟩ := bind_some hF
      refine JL.callH (c_gusts_Loads n H7 y6 y6a_v0 hy6a_0 y6a_v7 hy6a_7 y6a_v8 hy6a_8 g y19 hy19) rfl en_21 .none rfl ?_
      rintro H20 vv21 hs20 ⟨y19a_v0, rfl, hy19a_0⟩
      refine JL.move .none rfl ?_
      refine JL.extract rfl rfl .none rfl ?_
      refine JL.extract rfl rfl .none rfl ?_
      refine JL.assign .none rfl ?_
      refine JL.assign .none rfl ?_
      refine JL.done hQ ?_
      refine JQ.go ?_
      refine JC.seq ?_
      refine JC.region (by rfl) ?_
      intro hQ
      refine JL.loadOwn 4 az_30 rfl rfl rfl .none rfl ?_
      refine JL.loadOwn 3 az_32 rfl rfl rfl .none rfl ?_
      obtain ⟨y22, hy22, hF⟩ := bind_some hF
      refine JL.callH (c_ref05_Loads n H20 d d_v0 (SL.mono R_Section_mono (HSub.trans hs7 hs20) hd_0) d_v7 (SL.mono R_Span_mono (HSub.trans hs7 hs20) hd_7) d_v8 (SL.mono RInt.mono (HSub.trans hs7 hs20) hd_8) g y22 hy22) rfl en_22 .none rfl ?_
      rintro H23 vv24 hs23 ⟨y22a_v0, rfl, hy22a_0⟩
      refine JL.move .none rfl ?_
      refine JL.extract rfl rfl .none rfl ?_
      refine JL.extract rfl rfl .none rfl ?_
      refine JL.assign .none rfl ?_
      refine JL.assign .none rfl ?_
      refine JL.done hQ ?_
      refine JQ.go ?_
      refine JC.fresh (fun f => f 2 = .pointer (some ⟨b1, 0, none⟩) ∧ f 3 = .pointer (some ⟨b2, 0, none⟩) ∧ f 4 = .bool false ∧ f 5 = .pointer (some ⟨b9, 0, none⟩) ∧ f 6 = .pointer (some ⟨b16, 0, none⟩) ∧ f 7 = .int .i64 y15.2 ∧ f 8 = .pointer (some ⟨b18, 0, none⟩) ∧ f 9 = .int .i64 y17.2 ∧ f 10 = y19a_v0 ∧ f 11 = .int .i64 y19.2 ∧ f 12 = y22a_v0 ∧ f 13 = .int .i64 y22.2) ⟨rfl, rfl, rfl, rfl, rfl, rfl, rfl, rfl, rfl, rfl, rfl, rfl⟩ ?_
      rintro f ⟨hf2, hf3, hf4, hf5, hf6, hf7, hf8, hf9, hf10, hf11, hf12, hf13⟩
      refine (JC.norm (i := 2) hf2 (JC.norm (i := 3) hf3 (JC.norm (i := 4) hf4 (JC.norm (i := 5) hf5 (JC.norm (i := 6) hf6 (JC.norm (i := 7) hf7 (JC.norm (i := 8) hf8 (JC.norm (i := 9) hf9 (JC.norm (i := 10) hf10 (JC.norm (i := 11) hf11 (JC.norm (i := 12) hf12 (JC.norm (i := 13) hf13 ?_))))))))))))
      refine JC.seq ?_
      refine JC.region (by rfl) ?_
      intro hQ
      refine JL.loadOwn 2 az_30 rfl rfl rfl .none rfl ?_
      refine JL.loadOwn 3 az_32 rfl rfl rfl .none rfl ?_
      obtain ⟨y25, hy25, hF⟩ := bind_some hF
      refine JL.callH (c_gusts_Goes n H23 y6 y6a_v0 (SL.mono R_Section_mono (HSub.trans hs20 hs23) hy6a_0) y6a_v7 (SL.mono R_Span_mono (HSub.trans hs20 hs23) hy6a_7) y6a_v8 (SL.mono RInt.mono (HSub.trans hs20 hs23) hy6a_8) g y25 hy25) rfl en_14 .none rfl ?_
      rintro H26 vv27 hs26 ⟨y25a_v0, y25b_v0, rfl, hy25a_0, hy25b_0⟩
      refine JL.move .none rfl ?_
      refine JL.extract rfl rfl .none rfl ?_
      refine JL.extract rfl rfl .none rfl ?_
      refine JL.extract rfl rfl .none rfl ?_
      refine JL.assign .none rfl ?_
      refine JL.assign .none rfl ?_
      refine JL.assign .none rfl ?_
      refine JL.done hQ ?_
      refine JQ.go ?_
      refine JC.seq ?_
      refine JC.region (by rfl) ?_
      intro hQ
      refine JL.loadOwn 4 az_30 rfl rfl rfl .none rfl ?_
      refine JL.loadOwn 3 az_32 rfl rfl rfl .none rfl ?_
      obtain ⟨y28, hy28, hF⟩ := bind_some hF
      refine JL.callH (c_ref05_Goes n H26 d d_v0 (SL.mono R_Section_mono (HSub.trans hs7 (HSub.trans hs20 (HSub.trans hs23 hs26))) hd_0) d_v7 (SL.mono R_Span_mono (HSub.trans hs7 (HSub.trans hs20 (HSub.trans hs23 hs26))) hd_7) d_v8 (SL.mono RInt.mono (HSub.trans hs7 (HSub.trans hs20 (HSub.trans hs23 hs26))) hd_8) g y28 hy28) rfl en_23 .none rfl ?_
      rintro H29 vv30 hs29 ⟨y28a_v0, y28b_v0, rfl, hy28a_0, hy28b_0⟩
      refine JL.move .none rfl ?_
      refine JL.extract rfl rfl .none rfl ?_
      refine JL.extract rfl rfl .none rfl ?_
      refine JL.extract rfl rfl .none rfl ?_
      refine JL.assign .none rfl ?_
      refine JL.assign .none rfl ?_
      refine JL.assign .none rfl ?_
      refine JL.done hQ ?_
      refine JQ.go ?_
      refine JC.fresh (fun f => f 2 = .pointer (some ⟨b1, 0, none⟩) ∧ f 4 = .bool false ∧ f 5 = .pointer (some ⟨b9, 0, none⟩) ∧ f 6 = .pointer (some ⟨b16, 0, none⟩) ∧ f 7 = .int .i64 y15.2 ∧ f 8 = .pointer (some ⟨b18, 0, none⟩) ∧ f 9 = .int .i64 y17.2 ∧ f 10 = y19a_v0 ∧ f 11 = .int .i64 y19.2 ∧ f 12 = y22a_v0 ∧ f 13 = .int .i64 y22.2 ∧ f 14 = y25a_v0 ∧ f 15 = y25b_v0 ∧ f 16 = .int .i64 y25.2.2 ∧ f 17 = y28a_v0 ∧ f 18 = y28b_v0 ∧ f 19 = .int .i64 y28.2.2) ⟨rfl, rfl, rfl, rfl, rfl, rfl, rfl, rfl, rfl, rfl, rfl, rfl, rfl, rfl, rfl, rfl, rfl⟩ ?_
      rintro f ⟨hf2, hf4, hf5, hf6, hf7, hf8, hf9, hf10, hf11, hf12, hf13, hf14, hf15, hf16, hf17, hf18, hf19⟩
      refine (JC.norm (i := 2) hf2 (JC.norm (i := 4) hf4 (JC.norm (i := 5) hf5 (JC.norm (i := 6) hf6 (JC.norm (i := 7) hf7 (JC.norm (i := 8) hf8 (JC.norm (i := 9) hf9 (JC.norm (i := 10) hf10 (JC.norm (i := 11) hf11 (JC.norm (i := 12) hf12 (JC.norm (i := 13) hf13 (JC.norm (i := 14) hf14 (JC.norm (i := 15) hf15 (JC.norm (i := 16) hf16 (JC.norm (i := 17) hf17 (JC.norm (i := 18) hf18 (JC.norm (i := 19) hf19 ?_)))))))))))))))))
      refine JC.seq ?_
      refine JC.region (by rfl) ?_
      intro hQ
      refine JL.loadOwn 1 az_38 rfl rfl rfl .none rfl ?_
      refine JL.loadOwn 0 az_38 rfl rfl rfl .none rfl ?_
      refine JL.eqAgg eqg_38 rfl rfl (fun w => eqa_38 y15.1.Low y15.1.High y17.1.Low y17.1.High w) .none rfl ?_
      refine JL.move .none rfl ?_
      refine JL.cut 4 (fun f => f 2 = .pointer (some ⟨b1, 0, none⟩) ∧ f 5 = .pointer (some ⟨b9, 0, none⟩) ∧ f 10 = y19a_v0 ∧ f 11 = .int .i64 y19.2 ∧ f 12 = y22a_v0 ∧ f 13 = .int .i64 y22.2 ∧ f 14 = y25a_v0 ∧ f 15 = y25b_v0 ∧ f 16 = .int .i64 y25.2.2 ∧ f 17 = y28a_v0 ∧ f 18 = y28b_v0 ∧ f 19 = .int .i64 y28.2.2 ∧ f 73 = .bool (((y15.1.Low == y17.1.Low) && (y15.1.High == y17.1.High)) && (y15.2 == y17.2))) ?_ ?_
      · intro hJ31
        rcases bcases ((y15.1.Low == y17.1.Low) && (y15.1.High == y17.1.High)) with hc32 | hc32
        · skip
          refine JL.move (.some rfl rfl rfl hc32) rfl ?_
          refine JL.move (.some rfl rfl rfl hc32) rfl ?_
          refine JL.bin rfl rfl rfl (.some rfl rfl rfl hc32) rfl ?_
          refine JL.pick_t (b := ((y15.1.Low == y17.1.Low) && (y15.1.High == y17.1.High))) rfl hc32 .none rfl ?_
          exact hJ31 _ ⟨rfl, rfl, rfl, rfl, rfl, rfl, rfl, rfl, rfl, rfl, rfl, rfl, and_t hc32 rfl⟩
        · skip
          refine JL.skip (.bool rfl rfl rfl hc32) rfl ?_
          refine JL.skip (.bool rfl rfl rfl hc32) rfl ?_
          refine JL.skip (.bool rfl rfl rfl hc32) rfl ?_
          refine JL.pick_f (b := ((y15.1.Low == y17.1.Low) && (y15.1.High == y17.1.High))) rfl hc32 .none rfl ?_
          exact hJ31 _ ⟨rfl, rfl, rfl, rfl, rfl, rfl, rfl, rfl, rfl, rfl, rfl, rfl, and_f hc32 rfl⟩
      · rintro f ⟨hf2, hf5, hf10, hf11, hf12, hf13, hf14, hf15, hf16, hf17, hf18, hf19, hf73⟩
        refine (JL.norm (i := 2) hf2 (JL.norm (i := 5) hf5 (JL.norm (i := 10) hf10 (JL.norm (i := 11) hf11 (JL.norm (i := 12) hf12 (JL.norm (i := 13) hf13 (JL.norm (i := 14) hf14 (JL.norm (i := 15) hf15 (JL.norm (i := 16) hf16 (JL.norm (i := 17) hf17 (JL.norm (i := 18) hf18 (JL.norm (i := 19) hf19 (JL.norm (i := 73) hf73 ?_)))))))))))))
        refine JL.move .none rfl ?_
        obtain ⟨p34, hp34, hF⟩ := bind_some hF
        refine JL.cut 4 (fun f => f 2 = .pointer (some ⟨b1, 0, none⟩) ∧ f 5 = .pointer (some ⟨b9, 0, none⟩) ∧ f 11 = .int .i64 y19.2 ∧ f 13 = .int .i64 y22.2 ∧ f 14 = y25a_v0 ∧ f 15 = y25b_v0 ∧ f 16 = .int .i64 y25.2.2 ∧ f 17 = y28a_v0 ∧ f 18 = y28b_v0 ∧ f 19 = .int .i64 y28.2.2 ∧ f 78 = .bool p34) ?_ ?_
        · intro hJ35
          rcases ite_some hp34 with ⟨hc36, hF⟩ | ⟨hc36, hF⟩
          · skip
            refine JL.move (.some rfl rfl rfl hc36) rfl ?_
            refine JL.move (.some rfl rfl rfl hc36) rfl ?_
            obtain ⟨y37, hy37, hF⟩ := bind_some hF
            refine JL.callS (c_law05_sameSpans n H29 y19.1 y19a_v0 (SL.mono R_Span_mono (HSub.trans hs23 (HSub.trans hs26 hs29)) hy19a_0) y22.1 y22a_v0 (SL.mono R_Span_mono (HSub.trans hs26 hs29) hy22a_0) y37 hy37) rfl en_24 (.some rfl rfl rfl hc36) rfl ?_
            refine JL.pick_t (b := (((y15.1.Low == y17.1.Low) && (y15.1.High == y17.1.High)) && (y15.2 == y17.2))) rfl hc36 .none rfl ?_
            obtain rfl := Option.some.inj hF
            exact hJ35 _ ⟨rfl, rfl, rfl, rfl, rfl, rfl, rfl, rfl, rfl, rfl, rfl⟩
          · skip
            refine JL.skip (.bool rfl rfl rfl hc36) rfl ?_
            refine JL.skip (.bool rfl rfl rfl hc36) rfl ?_
            refine JL.skip (.bool rfl rfl rfl hc36) rfl ?_
            refine JL.pick_f (b := (((y15.1.Low == y17.1.Low) && (y15.1.High == y17.1.High)) && (y15.2 == y17.2))) rfl hc36 .none rfl ?_
            obtain rfl := Option.some.inj hF
            exact hJ35 _ ⟨rfl, rfl, rfl, rfl, rfl, rfl, rfl, rfl, rfl, rfl, rfl⟩
        · rintro f ⟨hf2, hf5, hf11, hf13, hf14, hf15, hf16, hf17, hf18, hf19, hf78⟩
          refine (JL.norm (i := 2) hf2 (JL.norm (i := 5) hf5 (JL.norm (i := 11) hf11 (JL.norm (i := 13) hf13 (JL.norm (i := 14) hf14 (JL.norm (i := 15) hf15 (JL.norm (i := 16) hf16 (JL.norm (i := 17) hf17 (JL.norm (i := 18) hf18 (JL.norm (i := 19) hf19 (JL.norm (i := 78) hf78 ?_)))))))))))
          refine JL.move .none rfl ?_
          refine JL.cut 4 (fun f => f 2 = .pointer (some ⟨b1, 0, none⟩) ∧ f 5 = .pointer (some ⟨b9, 0, none⟩) ∧ f 14 = y25a_v0 ∧ f 15 = y25b_v0 ∧ f 16 = .int .i64 y25.2.2 ∧ f 17 = y28a_v0 ∧ f 18 = y28b_v0 ∧ f 19 = .int .i64 y28.2.2 ∧ f 83 = .bool (p34 && (y19.2 == y22.2))) ?_ ?_
          · intro hJ38
            rcases bcases p34 with hc39 | hc39
            · skip
              refine JL.move (.some rfl rfl rfl hc39) rfl ?_
              refine JL.move (.some rfl rfl rfl hc39) rfl ?_
              refine JL.bin rfl rfl rfl (.some rfl rfl rfl hc39) rfl ?_
              refine JL.pick_t (b := p34) rfl hc39 .none rfl ?_
              exact hJ38 _ ⟨rfl, rfl, rfl, rfl, rfl, rfl, rfl, rfl, and_t hc39 rfl⟩
            · skip
              refine JL.skip (.bool rfl rfl rfl hc39) rfl ?_
              refine JL.skip (.bool rfl rfl rfl hc39) rfl ?_
              refine JL.skip (.bool rfl rfl rfl hc39) rfl ?_
              refine JL.pick_f (b := p34) rfl hc39 .none rfl ?_
              exact hJ38 _ ⟨rfl, rfl, rfl, rfl, rfl, rfl, rfl, rfl, and_f hc39 rfl⟩
          · rintro f ⟨hf2, hf5, hf14, hf15, hf16, hf17, hf18, hf19, hf83⟩
            refine (JL.norm (i := 2) hf2 (JL.norm (i := 5) hf5 (JL.norm (i := 14) hf14 (JL.norm (i := 15) hf15 (JL.norm (i := 16) hf16 (JL.norm (i := 17) hf17 (JL.norm (i := 18) hf18 (JL.norm (i := 19) hf19 (JL.norm (i := 83) hf83 ?_)))))))))
            refine JL.move .none rfl ?_
            obtain ⟨p41, hp41, hF⟩ := bind_some hF
            refine JL.cut 4 (fun f => f 2 = .pointer (some ⟨b1, 0, none⟩) ∧ f 5 = .pointer (some ⟨b9, 0, none⟩) ∧ f 15 = y25b_v0 ∧ f 16 = .int .i64 y25.2.2 ∧ f 18 = y28b_v0 ∧ f 19 = .int .i64 y28.2.2 ∧ f 88 = .bool p41) ?_ ?_
            · intro hJ42
              rcases ite_some hp41 with ⟨hc43, hF⟩ | ⟨hc43, hF⟩
              · skip
                refine JL.move (.some rfl rfl rfl hc43) rfl ?_
                refine JL.move (.some rfl rfl rfl hc43) rfl ?_
                obtain ⟨y44, hy44, hF⟩ := bind_some hF
                refine JL.callS (c_law05_sameInts n H29 y25.1 y25a_v0 (SL.mono RInt.mono hs29 hy25a_0) y28.1 y28a_v0 hy28a_0 y44 hy44) rfl en_25 (.some rfl rfl rfl hc43) rfl ?_
                refine JL.pick_t (b := (p34 && (y19.2 == y22.2))) rfl hc43 .none rfl ?_
                obtain rfl := Option.some.inj hF
                exact hJ42 _ ⟨rfl, rfl, rfl, rfl, rfl, rfl, rfl⟩
              · skip
                refine JL.skip (.bool rfl rfl rfl hc43) rfl ?_
                refine JL.skip (.bool rfl rfl rfl hc43) rfl ?_
                refine JL.skip (.bool rfl rfl rfl hc43) rfl ?_
                refine JL.pick_f (b := (p34 && (y19.2 == y22.2))) rfl hc43 .none rfl ?_
                obtain rfl := Option.some.inj hF
                exact hJ42 _ ⟨rfl, rfl, rfl, rfl, rfl, rfl, rfl⟩
            · rintro f ⟨hf2, hf5, hf15, hf16, hf18, hf19, hf88⟩
              refine (JL.norm (i := 2) hf2 (JL.norm (i := 5) hf5 (JL.norm (i := 15) hf15 (JL.norm (i := 16) hf16 (JL.norm (i := 18) hf18 (JL.norm (i := 19) hf19 (JL.norm (i := 88) hf88 ?_)))))))
              refine JL.move .none rfl ?_
              obtain ⟨p46, hp46, hF⟩ := bind_some hF
              refine JL.cut 4 (fun f => f 2 = .pointer (some ⟨b1, 0, none⟩) ∧ f 5 = .pointer (some ⟨b9, 0, none⟩) ∧ f 16 = .int .i64 y25.2.2 ∧ f 19 = .int .i64 y28.2.2 ∧ f 93 = .bool p46) ?_ ?_
              · intro hJ47
                rcases ite_some hp46 with ⟨hc48, hF⟩ | ⟨hc48, hF⟩
                · skip
                  refine JL.move (.some rfl rfl rfl hc48) rfl ?_
                  refine JL.move (.some rfl rfl rfl hc48) rfl ?_
                  obtain ⟨y49, hy49, hF⟩ := bind_some hF
                  refine JL.callS (c_law05_sameInts n H29 y25.2.1 y25b_v0 (SL.mono RInt.mono hs29 hy25b_0) y28.2.1 y28b_v0 hy28b_0 y49 hy49) rfl en_25 (.some rfl rfl rfl hc48) rfl ?_
                  refine JL.pick_t (b := p41) rfl hc48 .none rfl ?_
                  obtain rfl := Option.some.inj hF
                  exact hJ47 _ ⟨rfl, rfl, rfl, rfl, rfl⟩
                · skip
                  refine JL.skip (.bool rfl rfl rfl hc48) rfl ?_
                  refine JL.skip (.bool rfl rfl rfl hc48) rfl ?_
                  refine JL.skip (.bool rfl rfl rfl hc48) rfl ?_
                  refine JL.pick_f (b := p41) rfl hc48 .none rfl ?_
                  obtain rfl := Option.some.inj hF
                  exact hJ47 _ ⟨rfl, rfl, rfl, rfl, rfl⟩
              · rintro f ⟨hf2, hf5, hf16, hf19, hf93⟩
                refine (JL.norm (i := 2) hf2 (JL.norm (i := 5) hf5 (JL.norm (i := 16) hf16 (JL.norm (i := 19) hf19 (JL.norm (i := 93) hf93 ?_)))))
                refine JL.move .none rfl ?_
                refine JL.cut 4 (fun f => f 2 = .pointer (some ⟨b1, 0, none⟩) ∧ f 5 = .pointer (some ⟨b9, 0, none⟩) ∧ f 98 = .bool (p46 && (y25.2.2 == y28.2.2))) ?_ ?_
                · intro hJ50
                  rcases bcases p46 with hc51 | hc51
                  · skip
                    refine JL.move (.some rfl rfl rfl hc51) rfl ?_
                    refine JL.move (.some rfl rfl rfl hc51) rfl ?_
                    refine JL.bin rfl rfl rfl (.some rfl rfl rfl hc51) rfl ?_
                    refine JL.pick_t (b := p46) rfl hc51 .none rfl ?_
                    exact hJ50 _ ⟨rfl, rfl, and_t hc51 rfl⟩
                  · skip
                    refine JL.skip (.bool rfl rfl rfl hc51) rfl ?_
                    refine JL.skip (.bool rfl rfl rfl hc51) rfl ?_
                    refine JL.skip (.bool rfl rfl rfl hc51) rfl ?_
                    refine JL.pick_f (b := p46) rfl hc51 .none rfl ?_
                    exact hJ50 _ ⟨rfl, rfl, and_f hc51 rfl⟩
                · rintro f ⟨hf2, hf5, hf98⟩
                  refine (JL.norm (i := 2) hf2 (JL.norm (i := 5) hf5 (JL.norm (i := 98) hf98 ?_)))
                  refine JL.move .none rfl ?_
                  obtain ⟨p53, hp53, hF⟩ := bind_some hF
                  refine JL.cut 6 (fun f => f 2 = .pointer (some ⟨b1, 0, none⟩) ∧ f 5 = .pointer (some ⟨b9, 0, none⟩) ∧ f 105 = .bool p53) ?_ ?_
                  · intro hJ54
                    rcases ite_some hp53 with ⟨hc55, hF⟩ | ⟨hc55, hF⟩
                    · skip
                      refine JL.fieldAddr fo_30_1 rfl (.some rfl rfl rfl hc55) rfl ?_
                      refine JL.loadOwn 2 az_27 rfl rfl rfl (.some rfl rfl rfl hc55) rfl ?_
                      refine JL.fieldAddr fo_30_1 rfl (.some rfl rfl rfl hc55) rfl ?_
                      refine JL.loadOwn 4 az_27 rfl rfl rfl (.some rfl rfl rfl hc55) rfl ?_
                      obtain ⟨y56, hy56, hF⟩ := bind_some hF
                      refine JL.callS (c_law05_sameSpans n H29 y6.Ribs y6a_v7 (SL.mono R_Span_mono (HSub.trans hs20 (HSub.trans hs23 (HSub.trans hs26 hs29))) hy6a_7) d.Ribs d_v7 (SL.mono R_Span_mono (HSub.trans hs7 (HSub.trans hs20 (HSub.trans hs23 (HSub.trans hs26 hs29)))) hd_7) y56 hy56) rfl en_24 (.some rfl rfl rfl hc55) rfl ?_
                      refine JL.pick_t (b := (p46 && (y25.2.2 == y28.2.2))) rfl hc55 .none rfl ?_
                      obtain rfl := Option.some.inj hF
                      exact hJ54 _ ⟨rfl, rfl, rfl⟩
                    · skip
                      refine JL.skip (.bool rfl rfl rfl hc55) rfl ?_
                      refine JL.skip (.bool rfl rfl rfl hc55) rfl ?_
                      refine JL.skip (.bool rfl rfl rfl hc55) rfl ?_
                      refine JL.skip (.bool rfl rfl rfl hc55) rfl ?_
                      refine JL.skip (.bool rfl rfl rfl hc55) rfl ?_
                      refine JL.pick_f (b := (p46 && (y25.2.2 == y28.2.2))) rfl hc55 .none rfl ?_
                      obtain rfl := Option.some.inj hF
                      exact hJ54 _ ⟨rfl, rfl, rfl⟩
                  · rintro f ⟨hf2, hf5, hf105⟩
                    refine (JL.norm (i := 2) hf2 (JL.norm (i := 5) hf5 (JL.norm (i := 105) hf105 ?_)))
                    refine JL.move .none rfl ?_
                    obtain ⟨p58, hp58, hF⟩ := bind_some hF
                    refine JL.cut 6 (fun f => f 112 = .bool p58) ?_ ?_
                    · intro hJ59
                      rcases ite_some hp58 with ⟨hc60, hF⟩ | ⟨hc60, hF⟩
                      · skip
                        refine JL.fieldAddr fo_30_2 rfl (.some rfl rfl rfl hc60) rfl ?_
                        refine JL.loadOwn 2 az_28 rfl rfl rfl (.some rfl rfl rfl hc60) rfl ?_
                        refine JL.fieldAddr fo_30_2 rfl (.some rfl rfl rfl hc60) rfl ?_
                        refine JL.loadOwn 4 az_28 rfl rfl rfl (.some rfl rfl rfl hc60) rfl ?_
                        obtain ⟨y61, hy61, hF⟩ := bind_some hF
                        refine JL.callS (c_law05_sameInts n H29 y6.Shares y6a_v8 (SL.mono RInt.mono (HSub.trans hs20 (HSub.trans hs23 (HSub.trans hs26 hs29))) hy6a_8) d.Shares d_v8 (SL.mono RInt.mono (HSub.trans hs7 (HSub.trans hs20 (HSub.trans hs23 (HSub.trans hs26 hs29)))) hd_8) y61 hy61) rfl en_25 (.some rfl rfl rfl hc60) rfl ?_
                        refine JL.pick_t (b := p53) rfl hc60 .none rfl ?_
                        obtain rfl := Option.some.inj hF
                        exact hJ59 _ (rfl)
                      · skip
                        refine JL.skip (.bool rfl rfl rfl hc60) rfl ?_
                        refine JL.skip (.bool rfl rfl rfl hc60) rfl ?_
                        refine JL.skip (.bool rfl rfl rfl hc60) rfl ?_
                        refine JL.skip (.bool rfl rfl rfl hc60) rfl ?_
                        refine JL.skip (.bool rfl rfl rfl hc60) rfl ?_
                        refine JL.pick_f (b := p53) rfl hc60 .none rfl ?_
                        obtain rfl := Option.some.inj hF
                        exact hJ59 _ (rfl)
                    · rintro f hf112
                      refine (JL.norm (i := 112) hf112 ?_)
                      refine JL.move .none rfl ?_
                      obtain ⟨p63, hp63, hF⟩ := bind_some hF
                      refine JL.cut 2 (fun f => f 115 = .bool p63) ?_ ?_
                      · intro hJ64
                        rcases ite_some hp63 with ⟨hc65, hF⟩ | ⟨hc65, hF⟩
                        · skip
                          obtain ⟨y66, hy66, hF⟩ := bind_some hF
                          refine JL.callS (c_law05_works n H29 y66 hy66) rfl en_12 (.some rfl rfl rfl hc65) rfl ?_
                          refine JL.pick_t (b := p58) rfl hc65 .none rfl ?_
                          obtain rfl := Option.some.inj hF
                          exact hJ64 _ (rfl)
                        · skip
                          refine JL.skip (.bool rfl rfl rfl hc65) rfl ?_
                          refine JL.pick_f (b := p58) rfl hc65 .none rfl ?_
                          obtain rfl := Option.some.inj hF
                          exact hJ64 _ (rfl)
                      · rintro f hf115
                        refine (JL.norm (i := 115) hf115 ?_)
                        refine JL.assign .none rfl ?_
                        refine JL.done hQ ?_
                        refine JQ.go ?_
                        refine JC.ret ?_
                        obtain rfl := Option.some.inj hF
                        exact JQ.outS rfl (.tmp .nil) rfl

end Go.Proofs.Ytcpnnfdhafbemaa
