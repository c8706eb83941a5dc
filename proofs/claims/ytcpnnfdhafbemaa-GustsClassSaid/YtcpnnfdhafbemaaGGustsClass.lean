/-
  Printed by a program: functions of the translation as plain functions, and their contracts.
-/
import Derived.Test.YtcpnnfdhafbemaaGenK14
namespace Go.Proofs.Ytcpnnfdhafbemaa
open Go Go.RowKit Go.Dec
set_option linter.unusedVariables false
-- 8 ferrule/ferrulelaw05.GustsClass
def F_law05_GustsClass (n : Nat) (d : Canopy) (class_ : List Gust) (at_ : Int) : Option Bool :=
  (F_law05_Far n d).bind fun y2 => if (y2 || (decide (40 < (class_.length : Int)))) = true then ((F_law05_works n).bind fun y6 => some y6) else ((F_ref05_Copy n d).bind fun y7 => (lim (([] : List Gust) ++ class_)).bind fun l13 => (F_gusts_Stands n y7 l13).bind fun y19 => (F_ref05_Stands n d class_).bind fun y20 => (F_gusts_First n y7 l13).bind fun y21 => (F_ref05_First n d class_).bind fun y24 => (F_gusts_Most n y7 at_).bind fun y27 => (F_ref05_Most n d at_).bind fun y28 => (F_gusts_Weak n y7 l13).bind fun y29 => (F_ref05_Weak n d class_).bind fun y32 => (if (((y19.1 == y20.1) && (y19.2 == y20.2)) && (y21.1 == y24.1)) = true then ((F_law05_sameInts n y21.2.1 y24.2.1).bind fun y43 => some y43) else (some false) : Option Bool).bind fun p40 => (if (((p40 && (y21.2.2 == y24.2.2)) && (y27.1 == y28.1)) && (y27.2 == y28.2)) = true then ((F_law05_sameInts n y29.1 y32.1).bind fun y54 => some y54) else (some false) : Option Bool).bind fun p51 => (if (p51 && (y29.2 == y32.2)) = true then ((F_law05_works n).bind fun y61 => some y61) else (some false) : Option Bool).bind fun p58 => some p58)
set_option maxRecDepth 100000 in
set_option maxHeartbeats 40000000 in
theorem c_law05_GustsClass (n : Nat) (H : Hp) (d : Canopy) (d_v0 : Value) (hd_0 : SL H 7 R_Section d_v0 d.Frame.Sections) (d_v7 : Value) (hd_7 : SL H 2 R_Span d_v7 d.Ribs) (d_v8 : Value) (hd_8 : SL H 1 RInt d_v8 d.Shares) (class_ : List Gust) (class__v0 : Value) (hclass__0 : SL H 2 R_Gust class__v0 class_) (at_ : Int) (y : Bool) (hF : F_law05_GustsClass n d class_ at_ = some y) : SC Try.prog 8 [.agg [d_v0, .int .i64 d.Frame.Low, .int .i64 d.Frame.High, .int .i64 d.Frame.Ease.Num, .int .i64 d.Frame.Ease.Den, .int .i64 d.Frame.Rod, .int .i64 d.Frame.Case, d_v7, d_v8].toArray, class__v0, .int .i64 at_] (.bool y) H := by
  rw [F_law05_GustsClass] at hF
  refine SC.of (N := 136) Try.func8 rfl rfl rfl fun w => ?_
  refine JC.seq ?_
  refine JC.region (by rfl) ?_
  intro hQ
  refine JL.box (cs := [d_v0, .int .i64 d.Frame.Low, .int .i64 d.Frame.High, .int .i64 d.Frame.Ease.Num, .int .i64 d.Frame.Ease.Den, .int .i64 d.Frame.Rod, .int .i64 d.Frame.Case, d_v7, d_v8]) rfl .none rfl ?_
  intro b1
  refine JL.assign .none rfl ?_
  refine JL.done hQ ?_
  refine JQ.go ?_
  refine JC.seq ?_
  refine JC.seq ?_
  refine JC.region (by rfl) ?_
  intro hQ
  refine JL.loadOwn 0 az_30 rfl rfl rfl .none rfl ?_
  obtain ⟨y2, hy2, hF⟩ := bind_some hF
  refine JL.callS (c_law05_Far n H d d_v0 hd_0 d_v7 hd_7 d_v8 hd_8 y2 hy2) rfl en_16 .none rfl ?_
  refine JL.move .none rfl ?_
  refine JL.cut 4 (fun f => f 1 = class__v0 ∧ f 2 = .int .i64 at_ ∧ f 3 = .pointer (some ⟨b1, 0, none⟩) ∧ f 33 = .bool (y2 || (decide (40 < (class_.length : Int))))) ?_ ?_
  · intro hJ3
    rcases bcases y2 with hc4 | hc4
    · skip
      refine JL.skip (.bool rfl rfl rfl hc4) rfl ?_
      refine JL.skip (.bool rfl rfl rfl hc4) rfl ?_
      refine JL.skip (.bool rfl rfl rfl hc4) rfl ?_
      refine JL.pick_t (b := y2) rfl hc4 .none rfl ?_
      exact hJ3 _ ⟨rfl, rfl, rfl, or_t hc4 rfl⟩
    · skip
      refine JL.move (.some rfl rfl rfl hc4) rfl ?_
      refine JL.lenSL (R := R_Gust) ul_34 hclass__0 (.some rfl rfl rfl hc4) rfl ?_
      refine JL.bin rfl rfl rfl (.some rfl rfl rfl hc4) rfl ?_
      refine JL.pick_f (b := y2) rfl hc4 .none rfl ?_
      exact hJ3 _ ⟨rfl, rfl, rfl, or_f hc4 rfl⟩
  · rintro f ⟨hf1, hf2, hf3, hf33⟩
    refine (JL.norm (i := 1) hf1 (JL.norm (i := 2) hf2 (JL.norm (i := 3) hf3 (JL.norm (i := 33) hf33 ?_))))
    refine JL.done hQ ?_
    refine JQ.go ?_
    rcases ite_some hF with ⟨hc5, hF⟩ | ⟨hc5, hF⟩
    · refine JC.cond_t (b := (y2 || (decide (40 < (class_.length : Int))))) rfl hc5 ?_
      refine JC.seq ?_
      refine JC.region (by rfl) ?_
      intro hQ
      obtain ⟨y6, hy6, hF⟩ := bind_some hF
      refine JL.callS (c_law05_works n H y6 hy6) rfl en_12 .none rfl ?_
      refine JL.assign .none rfl ?_
      refine JL.done hQ ?_
      refine JQ.go ?_
      refine JC.ret ?_
      refine JQ.ret_then ?_
      obtain rfl := Option.some.inj hF
      exact JQ.outS rfl (.tmp .nil) rfl
    · refine JC.cond_f (b := (y2 || (decide (40 < (class_.length : Int))))) rfl hc5 ?_
      refine JC.skip ?_
      refine JQ.go ?_
      refine JC.seq ?_
      refine JC.region (by rfl) ?_
      intro hQ
      refine JL.loadOwn 0 az_30 rfl rfl rfl .none rfl ?_
      obtain ⟨y7, hy7, hF⟩ := bind_some hF
      refine JL.callH (c_ref05_Copy n H d d_v0 hd_0 d_v7 hd_7 d_v8 hd_8 y7 hy7) rfl en_13 .none rfl ?_
      rintro H8 vv9 hs8 ⟨y7a_v0, y7a_v7, y7a_v8, rfl, hy7a_0, hy7a_7, hy7a_8⟩
      refine JL.alloc ze_30 .none rfl ?_
      intro b10
      refine JL.storeOwn 0 (cs := [y7a_v0, .int .i64 y7.Frame.Low, .int .i64 y7.Frame.High, .int .i64 y7.Frame.Ease.Num, .int .i64 y7.Frame.Ease.Den, .int .i64 y7.Frame.Rod, .int .i64 y7.Frame.Case, y7a_v7, y7a_v8]) az_30 rfl rfl rfl (one_cons (SL.one hy7a_0) (one_cons rfl (one_cons rfl (one_cons rfl (one_cons rfl (one_cons rfl (one_cons rfl (one_cons (SL.one hy7a_7) (one_cons (SL.one hy7a_8) one_nil))))))))) rfl rfl .none ?_
      refine JL.done hQ ?_
      refine JQ.go ?_
      refine JC.seq ?_
      refine JC.region (by rfl) ?_
      intro hQ
      refine JL.emptySlice ap_34 .none rfl ?_
      intro v11
      refine JL.move .none rfl ?_
      obtain ⟨l13, hl13, hF⟩ := bind_some hF
      refine JL.appD (R := R_Gust) 0 (l := ([] : List Gust)) (m := class_) ap_34 rfl ⟨rfl, rfl⟩ rfl CH.nil rfl (SL.mono R_Gust_mono hs8 hclass__0) (R_Gust_one _) hl13 .none rfl ?_
      intro v14 xs15 hch16
      refine JL.assign .none rfl ?_
      refine JL.done hQ ?_
      refine JQ.go ?_
      refine JC.seq ?_
      refine JC.region (by rfl) ?_
      intro hQ
      refine JL.loadOwn 0 az_30 rfl rfl rfl .none rfl ?_
      refine JL.move .none rfl ?_
      refine JL.freezeG 0 (R := R_Gust) rfl R_Gust_mono hch16 rfl ?_
      intro H17 hs17 hg18
      obtain ⟨y19, hy19, hF⟩ := bind_some hF
      refine JL.callS (c_gusts_Stands n H17 y7 y7a_v0 (SL.mono R_Section_mono hs17 hy7a_0) y7a_v7 (SL.mono R_Span_mono hs17 hy7a_7) y7a_v8 (SL.mono RInt.mono hs17 hy7a_8) l13 v14 hg18 y19 hy19) rfl en_29 .none rfl ?_
      refine JL.move .none rfl ?_
      refine JL.extract rfl rfl .none rfl ?_
      refine JL.extract rfl rfl .none rfl ?_
      refine JL.assign .none rfl ?_
      refine JL.assign .none rfl ?_
      refine JL.done hQ ?_
      refine JQ.go ?_
      refine JC.fresh (fun f => f 1 = class__v0 ∧ f 2 = .int .i64 at_ ∧ f 3 = .pointer (some ⟨b1, 0, none⟩) ∧ f 7 = .pointer (some ⟨b10, 0, none⟩) ∧ f 8 = v14 ∧ f 9 = .int .i64 y19.1 ∧ f 10 = .int .i64 y19.2) ⟨rfl, rfl, rfl, rfl, rfl, rfl, rfl⟩ ?_
      rintro f ⟨hf1, hf2, hf3, hf7, hf8, hf9, hf10⟩
      refine (JC.norm (i := 1) hf1 (JC.norm (i := 2) hf2 (JC.norm (i := 3) hf3 (JC.norm (i := 7) hf7 (JC.norm (i := 8) hf8 (JC.norm (i := 9) hf9 (JC.norm (i := 10) hf10 ?_)))))))
      refine JC.seq ?_
      refine JC.region (by rfl) ?_
      intro hQ
      refine JL.loadOwn 1 az_30 rfl rfl rfl .none rfl ?_
      refine JL.move .none rfl ?_
      obtain ⟨y20, hy20, hF⟩ := bind_some hF
      refine JL.callS (c_ref05_Stands n H17 d d_v0 (SL.mono R_Section_mono (HSub.trans hs8 hs17) hd_0) d_v7 (SL.mono R_Span_mono (HSub.trans hs8 hs17) hd_7) d_v8 (SL.mono RInt.mono (HSub.trans hs8 hs17) hd_8) class_ class__v0 (SL.mono R_Gust_mono (HSub.trans hs8 hs17) hclass__0) y20 hy20) rfl en_32 .none rfl ?_
      refine JL.move .none rfl ?_
      refine JL.extract rfl rfl .none rfl ?_
      refine JL.extract rfl rfl .none rfl ?_
      refine JL.assign .none rfl ?_
      refine JL.assign .none rfl ?_
      refine JL.done hQ ?_
      refine JQ.go ?_
      refine JC.seq ?_
      refine JC.region (by rfl) ?_
      intro hQ
      refine JL.loadOwn 0 az_30 rfl rfl rfl .none rfl ?_
      refine JL.move .none rfl ?_
      obtain ⟨y21, hy21, hF⟩ := bind_some hF
      refine JL.callH (c_gusts_First n H17 y7 y7a_v0 (SL.mono R_Section_mono hs17 hy7a_0) y7a_v7 (SL.mono R_Span_mono hs17 hy7a_7) y7a_v8 (SL.mono RInt.mono hs17 hy7a_8) l13 v14 hg18 y21 hy21) rfl en_26 .none rfl ?_
      rintro H22 vv23 hs22 ⟨y21b_v0, rfl, hy21b_0⟩
      refine JL.move .none rfl ?_
      refine JL.extract rfl rfl .none rfl ?_
      refine JL.extract rfl rfl .none rfl ?_
      refine JL.extract rfl rfl .none rfl ?_
      refine JL.assign .none rfl ?_
      refine JL.assign .none rfl ?_
      refine JL.assign .none rfl ?_
      refine JL.done hQ ?_
      refine JQ.go ?_
      refine JC.fresh (fun f => f 1 = class__v0 ∧ f 2 = .int .i64 at_ ∧ f 3 = .pointer (some ⟨b1, 0, none⟩) ∧ f 7 = .pointer (some ⟨b10, 0, none⟩) ∧ f 8 = v14 ∧ f 9 = .int .i64 y19.1 ∧ f 10 = .int .i64 y19.2 ∧ f 11 = .int .i64 y20.1 ∧ f 12 = .int .i64 y20.2 ∧ f 13 = .int .i64 y21.1 ∧ f 14 = y21b_v0 ∧ f 15 = .int .i64 y21.2.2) ⟨rfl, rfl, rfl, rfl, rfl, rfl, rfl, rfl, rfl, rfl, rfl, rfl⟩ ?_
      rintro f ⟨hf1, hf2, hf3, hf7, hf8, hf9, hf10, hf11, hf12, hf13, hf14, hf15⟩
      refine (JC.norm (i := 1) hf1 (JC.norm (i := 2) hf2 (JC.norm (i := 3) hf3 (JC.norm (i := 7) hf7 (JC.norm (i := 8) hf8 (JC.norm (i := 9) hf9 (JC.norm (i := 10) hf10 (JC.norm (i := 11) hf11 (JC.norm (i := 12) hf12 (JC.norm (i := 13) hf13 (JC.norm (i := 14) hf14 (JC.norm (i := 15) hf15 ?_))))))))))))
      refine JC.seq ?_
      refine JC.region (by rfl) ?_
      intro hQ
      refine JL.loadOwn 1 az_30 rfl rfl rfl .none rfl ?_
      refine JL.move .none rfl ?_
      obtain ⟨y24, hy24, hF⟩ := bind_some hF
      refine JL.callH (c_ref05_First n H22 d d_v0 (SL.mono R_Section_mono (HSub.trans hs8 (HSub.trans hs17 hs22)) hd_0) d_v7 (SL.mono R_Span_mono (HSub.trans hs8 (HSub.trans hs17 hs22)) hd_7) d_v8 (SL.mono RInt.mono (HSub.trans hs8 (HSub.trans hs17 hs22)) hd_8) class_ class__v0 (SL.mono R_Gust_mono (HSub.trans hs8 (HSub.trans hs17 hs22)) hclass__0) y24 hy24) rfl en_33 .none rfl ?_
      rintro H25 vv26 hs25 ⟨y24b_v0, rfl, hy24b_0⟩
      refine JL.move .none rfl ?_
      refine JL.extract rfl rfl .none rfl ?_
      refine JL.extract rfl rfl .none rfl ?_
      refine JL.extract rfl rfl .none rfl ?_
      refine JL.assign .none rfl ?_
      refine JL.assign .none rfl ?_
      refine JL.assign .none rfl ?_
      refine JL.done hQ ?_
      refine JQ.go ?_
      refine JC.seq ?_
      refine JC.region (by rfl) ?_
      intro hQ
      refine JL.loadOwn 0 az_30 rfl rfl rfl .none rfl ?_
      refine JL.move .none rfl ?_
      obtain ⟨y27, hy27, hF⟩ := bind_some hF
      refine JL.callS (c_gusts_Most n H25 y7 y7a_v0 (SL.mono R_Section_mono (HSub.trans hs17 (HSub.trans hs22 hs25)) hy7a_0) y7a_v7 (SL.mono R_Span_mono (HSub.trans hs17 (HSub.trans hs22 hs25)) hy7a_7) y7a_v8 (SL.mono RInt.mono (HSub.trans hs17 (HSub.trans hs22 hs25)) hy7a_8) at_ y27 hy27) rfl en_30 .none rfl ?_
      refine JL.move .none rfl ?_
      refine JL.extract rfl rfl .none rfl ?_
      refine JL.extract rfl rfl .none rfl ?_
      refine JL.assign .none rfl ?_
      refine JL.assign .none rfl ?_
      refine JL.done hQ ?_
      refine JQ.go ?_
      refine JC.fresh (fun f => f 1 = class__v0 ∧ f 2 = .int .i64 at_ ∧ f 3 = .pointer (some ⟨b1, 0, none⟩) ∧ f 7 = .pointer (some ⟨b10, 0, none⟩) ∧ f 8 = v14 ∧ f 9 = .int .i64 y19.1 ∧ f 10 = .int .i64 y19.2 ∧ f 11 = .int .i64 y20.1 ∧ f 12 = .int .i64 y20.2 ∧ f 13 = .int .i64 y21.1 ∧ f 14 = y21b_v0 ∧ f 15 = .int .i64 y21.2.2 ∧ f 16 = .int .i64 y24.1 ∧ f 17 = y24b_v0 ∧ f 18 = .int .i64 y24.2.2 ∧ f 19 = .int .i64 y27.1 ∧ f 20 = .int .i64 y27.2) ⟨rfl, rfl, rfl, rfl, rfl, rfl, rfl, rfl, rfl, rfl, rfl, rfl, rfl, rfl, rfl, rfl, rfl⟩ ?_
      rintro f ⟨hf1, hf2, hf3, hf7, hf8, hf9, hf10, hf11, hf12, hf13, hf14, hf15, hf16, hf17, hf18, hf19, hf20⟩
      refine (JC.norm (i := 1) hf1 (JC.norm (i := 2) hf2 (JC.norm (i := 3) hf3 (JC.norm (i := 7) hf7 (JC.norm (i := 8) hf8 (JC.norm (i := 9) hf9 (JC.norm (i := 10) hf10 (JC.norm (i := 11) hf11 (JC.norm (i := 12) hf12 (JC.norm (i := 13) hf13 (JC.norm (i := 14) hf14 (JC.norm (i := 15) hf15 (JC.norm (i := 16) hf16 (JC.norm (i := 17) hf17 (JC.norm (i := 18) hf18 (JC.norm (i := 19) hf19 (JC.norm (i := 20) hf20 ?_)))))))))))))))))
      refine JC.seq ?_
      refine JC.region (by rfl) ?_
      intro hQ
      refine JL.loadOwn 1 az_30 rfl rfl rfl .none rfl ?_
      refine JL.move .none rfl ?_
      obtain ⟨y28, hy28, hF⟩ := bind_some hF
      refine JL.callS (c_ref05_Most n H25 d d_v0 (SL.mono R_Section_mono (HSub.trans hs8 (HSub.trans hs17 (HSub.trans hs22 hs25))) hd_0) d_v7 (SL.mono R_Span_mono (HSub.trans hs8 (HSub.trans hs17 (HSub.trans hs22 hs25))) hd_7) d_v8 (SL.mono RInt.mono (HSub.trans hs8 (HSub.trans hs17 (HSub.trans hs22 hs25))) hd_8) at_ y28 hy28) rfl en_34 .none rfl ?_
      refine JL.move .none rfl ?_
      refine JL.extract rfl rfl .none rfl ?_
      refine JL.extract rfl rfl .none rfl ?_
      refine JL.assign .none rfl ?_
      refine JL.assign .none rfl ?_
      refine JL.done hQ ?_
      refine JQ.go ?_
      refine JC.seq ?_
      refine JC.region (by rfl) ?_
      intro hQ
      refine JL.loadOwn 0 az_30 rfl rfl rfl .none rfl ?_
      refine JL.move .none rfl ?_
      obtain ⟨y29, hy29, hF⟩ := bind_some hF
      refine JL.callH (c_gusts_Weak n H25 y7 y7a_v0 (SL.mono R_Section_mono (HSub.trans hs17 (HSub.trans hs22 hs25)) hy7a_0) y7a_v7 (SL.mono R_Span_mono (HSub.trans hs17 (HSub.trans hs22 hs25)) hy7a_7) y7a_v8 (SL.mono RInt.mono (HSub.trans hs17 (HSub.trans hs22 hs25)) hy7a_8) l13 v14 (SL.mono R_Gust_mono (HSub.trans hs22 hs25) hg18) y29 hy29) rfl en_31 .none rfl ?_
      rintro H30 vv31 hs30 ⟨y29a_v0, rfl, hy29a_0⟩
      refine JL.move .none rfl ?_
      refine JL.extract rfl rfl .none rfl ?_
      refine JL.extract rfl rfl .none rfl ?_
      refine JL.assign .none rfl ?_
      refine JL.assign .none rfl ?_
      refine JL.done hQ ?_
      refine JQ.go ?_
      refine JC.fresh (fun f => f 1 = class__v0 ∧ f 3 = .pointer (some ⟨b1, 0, none⟩) ∧ f 9 = .int .i64 y19.1 ∧ f 10 = .int .i64 y19.2 ∧ f 11 = .int .i64 y20.1 ∧ f 12 = .int .i64 y20.2 ∧ f 13 = .int .i64 y21.1 ∧ f 14 = y21b_v0 ∧ f 15 = .int .i64 y21.2.2 ∧ f 16 = .int .i64 y24.1 ∧ f 17 = y24b_v0 ∧ f 18 = .int .i64 y24.2.2 ∧ f 19 = .int .i64 y27.1 ∧ f 20 = .int .i64 y27.2 ∧ f 21 = .int .i64 y28.1 ∧ f 22 = .int .i64 y28.2 ∧ f 23 = y29a_v0 ∧ f 24 = .int .i64 y29.2) ⟨rfl, rfl, rfl, rfl, rfl, rfl, rfl, rfl, rfl, rfl, rfl, rfl, rfl, rfl, rfl, rfl, rfl, rfl⟩ ?_
      rintro f ⟨hf1, hf3, hf9, hf10, hf11, hf12, hf13, hf14, hf15, hf16, hf17, hf18, hf19, hf20, hf21, hf22, hf23, hf24⟩
      refine (JC.norm (i := 1) hf1 (JC.norm (i := 3) hf3 (JC.norm (i := 9) hf9 (JC.norm (i := 10) hf10 (JC.norm (i := 11) hf11 (JC.norm (i := 12) hf12 (JC.norm (i := 13) hf13 (JC.norm (i := 14) hf14 (JC.norm (i := 15) hf15 (JC.norm (i := 16) hf16 (JC.norm (i := 17) hf17 (JC.norm (i := 18) hf18 (JC.norm (i := 19) hf19 (JC.norm (i := 20) hf20 (JC.norm (i := 21) hf21 (JC.norm (i := 22) hf22 (JC.norm (i := 23) hf23 (JC.norm (i := 24) hf24 ?_))))))))))))))))))
      refine JC.seq ?_
      refine JC.region (by rfl) ?_
      intro hQ
      refine JL.loadOwn 1 az_30 rfl rfl rfl .none rfl ?_
      refine JL.move .none rfl ?_
      obtain ⟨y32, hy32, hF⟩ := bind_some hF
      refine JL.callH (c_ref05_Weak n H30 d d_v0 (SL.mono R_Section_mono (HSub.trans hs8 (HSub.trans hs17 (HSub.trans hs22 (HSub.trans hs25 hs30)))) hd_0) d_v7 (SL.mono R_Span_mono (HSub.trans hs8 (HSub.trans hs17 (HSub.trans hs22 (HSub.trans hs25 hs30)))) hd_7) d_v8 (SL.mono RInt.mono (HSub.trans hs8 (HSub.trans hs17 (HSub.trans hs22 (HSub.trans hs25 hs30)))) hd_8) class_ class__v0 (SL.mono R_Gust_mono (HSub.trans hs8 (HSub.trans hs17 (HSub.trans hs22 (HSub.trans hs25 hs30)))) hclass__0) y32 hy32) rfl en_35 .none rfl ?_
      rintro H33 vv34 hs33 ⟨y32a_v0, rfl, hy32a_0⟩
      refine JL.move .none rfl ?_
      refine JL.extract rfl rfl .none rfl ?_
      refine JL.extract rfl rfl .none rfl ?_
      refine JL.assign .none rfl ?_
      refine JL.assign .none rfl ?_
      refine JL.done hQ ?_
      refine JQ.go ?_
      refine JC.fresh (fun f => f 9 = .int .i64 y19.1 ∧ f 10 = .int .i64 y19.2 ∧ f 11 = .int .i64 y20.1 ∧ f 12 = .int .i64 y20.2 ∧ f 13 = .int .i64 y21.1 ∧ f 14 = y21b_v0 ∧ f 15 = .int .i64 y21.2.2 ∧ f 16 = .int .i64 y24.1 ∧ f 17 = y24b_v0 ∧ f 18 = .int .i64 y24.2.2 ∧ f 19 = .int .i64 y27.1 ∧ f 20 = .int .i64 y27.2 ∧ f 21 = .int .i64 y28.1 ∧ f 22 = .int .i64 y28.2 ∧ f 23 = y29a_v0 ∧ f 24 = .int .i64 y29.2 ∧ f 25 = y32a_v0 ∧ f 26 = .int .i64 y32.2) ⟨rfl, rfl, rfl, rfl, rfl, rfl, rfl, rfl, rfl, rfl, rfl, rfl, rfl, rfl, rfl, rfl, rfl, rfl⟩ ?_
      rintro f ⟨hf9, hf10, hf11, hf12, hf13, hf14, hf15, hf16, hf17, hf18, hf19, hf20, hf21, hf22, hf23, hf24, hf25, hf26⟩
      refine (JC.norm (i := 9) hf9 (JC.norm (i := 10) hf10 (JC.norm (i := 11) hf11 (JC.norm (i := 12) hf12 (JC.norm (i := 13) hf13 (JC.norm (i := 14) hf14 (JC.norm (i := 15) hf15 (JC.norm (i := 16) hf16 (JC.norm (i := 17) hf17 (JC.norm (i := 18) hf18 (JC.norm (i := 19) hf19 (JC.norm (i := 20) hf20 (JC.norm (i := 21) hf21 (JC.norm (i := 22) hf22 (JC.norm (i := 23) hf23 (JC.norm (i := 24) hf24 (JC.norm (i := 25) hf25 (JC.norm (i := 26) hf26 ?_))))))))))))))))))
      refine JC.seq ?_
      refine JC.region (by rfl) ?_
      intro hQ
      refine JL.move .none rfl ?_
      refine JL.move .none rfl ?_
      refine JL.bin rfl rfl rfl .none rfl ?_
      refine JL.move .none rfl ?_
      refine JL.cut 4 (fun f => f 13 = .int .i64 y21.1 ∧ f 14 = y21b_v0 ∧ f 15 = .int .i64 y21.2.2 ∧ f 16 = .int .i64 y24.1 ∧ f 17 = y24b_v0 ∧ f 18 = .int .i64 y24.2.2 ∧ f 19 = .int .i64 y27.1 ∧ f 20 = .int .i64 y27.2 ∧ f 21 = .int .i64 y28.1 ∧ f 22 = .int .i64 y28.2 ∧ f 23 = y29a_v0 ∧ f 24 = .int .i64 y29.2 ∧ f 25 = y32a_v0 ∧ f 26 = .int .i64 y32.2 ∧ f 97 = .bool ((y19.1 == y20.1) && (y19.2 == y20.2))) ?_ ?_
      · intro hJ35
        rcases bcases (y19.1 == y20.1) with hc36 | hc36
        · skip
          refine JL.move (.some rfl rfl rfl hc36) rfl ?_
          refine JL.move (.some rfl rfl rfl hc36) rfl ?_
          refine JL.bin rfl rfl rfl (.some rfl rfl rfl hc36) rfl ?_
          refine JL.pick_t (b := (y19.1 == y20.1)) rfl hc36 .none rfl ?_
          exact hJ35 _ ⟨rfl, rfl, rfl, rfl, rfl, rfl, rfl, rfl, rfl, rfl, rfl, rfl, rfl, rfl, and_t hc36 rfl⟩
        · skip
          refine JL.skip (.bool rfl rfl rfl hc36) rfl ?_
          refine JL.skip (.bool rfl rfl rfl hc36) rfl ?_
          refine JL.skip (.bool rfl rfl rfl hc36) rfl ?_
          refine JL.pick_f (b := (y19.1 == y20.1)) rfl hc36 .none rfl ?_
          exact hJ35 _ ⟨rfl, rfl, rfl, rfl, rfl, rfl, rfl, rfl, rfl, rfl, rfl, rfl, rfl, rfl, and_f hc36 rfl⟩
      · rintro f ⟨hf13, hf14, hf15, hf16, hf17, hf18, hf19, hf20, hf21, hf22, hf23, hf24, hf25, hf26, hf97⟩
        refine (JL.norm (i := 13) hf13 (JL.norm (i := 14) hf14 (JL.norm (i := 15) hf15 (JL.norm (i := 16) hf16 (JL.norm (i := 17) hf17 (JL.norm (i := 18) hf18 (JL.norm (i := 19) hf19 (JL.norm (i := 20) hf20 (JL.norm (i := 21) hf21 (JL.norm (i := 22) hf22 (JL.norm (i := 23) hf23 (JL.norm (i := 24) hf24 (JL.norm (i := 25) hf25 (JL.norm (i := 26) hf26 (JL.norm (i := 97) hf97 ?_)))))))))))))))
        refine JL.move .none rfl ?_
        refine JL.cut 4 (fun f => f 14 = y21b_v0 ∧ f 15 = .int .i64 y21.2.2 ∧ f 17 = y24b_v0 ∧ f 18 = .int .i64 y24.2.2 ∧ f 19 = .int .i64 y27.1 ∧ f 20 = .int .i64 y27.2 ∧ f 21 = .int .i64 y28.1 ∧ f 22 = .int .i64 y28.2 ∧ f 23 = y29a_v0 ∧ f 24 = .int .i64 y29.2 ∧ f 25 = y32a_v0 ∧ f 26 = .int .i64 y32.2 ∧ f 102 = .bool (((y19.1 == y20.1) && (y19.2 == y20.2)) && (y21.1 == y24.1))) ?_ ?_
        · intro hJ37
          rcases bcases ((y19.1 == y20.1) && (y19.2 == y20.2)) with hc38 | hc38
          · skip
            refine JL.move (.some rfl rfl rfl hc38) rfl ?_
            refine JL.move (.some rfl rfl rfl hc38) rfl ?_
            refine JL.bin rfl rfl rfl (.some rfl rfl rfl hc38) rfl ?_
            refine JL.pick_t (b := ((y19.1 == y20.1) && (y19.2 == y20.2))) rfl hc38 .none rfl ?_
            exact hJ37 _ ⟨rfl, rfl, rfl, rfl, rfl, rfl, rfl, rfl, rfl, rfl, rfl, rfl, and_t hc38 rfl⟩
          · skip
            refine JL.skip (.bool rfl rfl rfl hc38) rfl ?_
            refine JL.skip (.bool rfl rfl rfl hc38) rfl ?_
            refine JL.skip (.bool rfl rfl rfl hc38) rfl ?_
            refine JL.pick_f (b := ((y19.1 == y20.1) && (y19.2 == y20.2))) rfl hc38 .none rfl ?_
            exact hJ37 _ ⟨rfl, rfl, rfl, rfl, rfl, rfl, rfl, rfl, rfl, rfl, rfl, rfl, and_f hc38 rfl⟩
        · rintro f ⟨hf14, hf15, hf17, hf18, hf19, hf20, hf21, hf22, hf23, hf24, hf25, hf26, hf102⟩
          refine (JL.norm (i := 14) hf14 (JL.norm (i := 15) hf15 (JL.norm (i := 17) hf17 (JL.norm (i := 18) hf18 (JL.norm (i := 19) hf19 (JL.norm (i := 20) hf20 (JL.norm (i := 21) hf21 (JL.norm (i := 22) hf22 (JL.norm (i := 23) hf23 (JL.norm (i := 24) hf24 (JL.norm (i := 25) hf25 (JL.norm (i := 26) hf26 (JL.norm (i := 102) hf102 ?_)))))))))))))
          refine JL.move .none rfl ?_
          obtain ⟨p40, hp40, hF⟩ := bind_some hF
          refine JL.cut 4 (fun f => f 15 = .int .i64 y21.2.2 ∧ f 18 = .int .i64 y24.2.2 ∧ f 19 = .int .i64 y27.1 ∧ f 20 = .int .i64 y27.2 ∧ f 21 = .int .i64 y28.1 ∧ f 22 = .int .i64 y28.2 ∧ f 23 = y29a_v0 ∧ f 24 = .int .i64 y29.2 ∧ f 25 = y32a_v0 ∧ f 26 = .int .i64 y32.2 ∧ f 107 = .bool p40) ?_ ?_
          · intro hJ41
            rcases ite_some hp40 with ⟨hc42, hF⟩ | ⟨hc42, hF⟩
            · skip
              refine JL.move (.some rfl rfl rfl hc42) rfl ?_
              refine JL.move (.some rfl rfl rfl hc42) rfl ?_
              obtain ⟨y43, hy43, hF⟩ := bind_some hF
              refine JL.callS (c_law05_sameInts n H33 y21.2.1 y21b_v0 (SL.mono RInt.mono (HSub.trans hs25 (HSub.trans hs30 hs33)) hy21b_0) y24.2.1 y24b_v0 (SL.mono RInt.mono (HSub.trans hs30 hs33) hy24b_0) y43 hy43) rfl en_25 (.some rfl rfl rfl hc42) rfl ?_
              refine JL.pick_t (b := (((y19.1 == y20.1) && (y19.2 == y20.2)) && (y21.1 == y24.1))) rfl hc42 .none rfl ?_
              obtain rfl := Option.some.inj hF
              exact hJ41 _ ⟨rfl, rfl, rfl, rfl, rfl, rfl, rfl, rfl, rfl, rfl, rfl⟩
            · skip
              refine JL.skip (.bool rfl rfl rfl hc42) rfl ?_
              refine JL.skip (.bool rfl rfl rfl hc42) rfl ?_
              refine JL.skip (.bool rfl rfl rfl hc42) rfl ?_
              refine JL.pick_f (b := (((y19.1 == y20.1) && (y19.2 == y20.2)) && (y21.1 == y24.1))) rfl hc42 .none rfl ?_
              obtain rfl := Option.some.inj hF
              exact hJ41 _ ⟨rfl, rfl, rfl, rfl, rfl, rfl, rfl, rfl, rfl, rfl, rfl⟩
          · rintro f ⟨hf15, hf18, hf19, hf20, hf21, hf22, hf23, hf24, hf25, hf26, hf107⟩
            refine (JL.norm (i := 15) hf15 (JL.norm (i := 18) hf18 (JL.norm (i := 19) hf19 (JL.norm (i := 20) hf20 (JL.norm (i := 21) hf21 (JL.norm (i := 22) hf22 (JL.norm (i := 23) hf23 (JL.norm (i := 24) hf24 (JL.norm (i := 25) hf25 (JL.norm (i := 26) hf26 (JL.norm (i := 107) hf107 ?_)))))))))))
            refine JL.move .none rfl ?_
            refine JL.cut 4 (fun f => f 19 = .int .i64 y27.1 ∧ f 20 = .int .i64 y27.2 ∧ f 21 = .int .i64 y28.1 ∧ f 22 = .int .i64 y28.2 ∧ f 23 = y29a_v0 ∧ f 24 = .int .i64 y29.2 ∧ f 25 = y32a_v0 ∧ f 26 = .int .i64 y32.2 ∧ f 112 = .bool (p40 && (y21.2.2 == y24.2.2))) ?_ ?_
            · intro hJ44
              rcases bcases p40 with hc45 | hc45
              · skip
                refine JL.move (.some rfl rfl rfl hc45) rfl ?_
                refine JL.move (.some rfl rfl rfl hc45) rfl ?_
                refine JL.bin rfl rfl rfl (.some rfl rfl rfl hc45) rfl ?_
                refine JL.pick_t (b := p40) rfl hc45 .none rfl ?_
                exact hJ44 _ ⟨rfl, rfl, rfl, rfl, rfl, rfl, rfl, rfl, and_t hc45 rfl⟩
              · skip
                refine JL.skip (.bool rfl rfl rfl hc45) rfl ?_
                refine JL.skip (.bool rfl rfl rfl hc45) rfl ?_
                refine JL.skip (.bool rfl rfl rfl hc45) rfl ?_
                refine JL.pick_f (b := p40) rfl hc45 .none rfl ?_
                exact hJ44 _ ⟨rfl, rfl, rfl, rfl, rfl, rfl, rfl, rfl, and_f hc45 rfl⟩
            · rintro f ⟨hf19, hf20, hf21, hf22, hf23, hf24, hf25, hf26, hf112⟩
              refine (JL.norm (i := 19) hf19 (JL.norm (i := 20) hf20 (JL.norm (i := 21) hf21 (JL.norm (i := 22) hf22 (JL.norm (i := 23) hf23 (JL.norm (i := 24) hf24 (JL.norm (i := 25) hf25 (JL.norm (i := 26) hf26 (JL.norm (i := 112) hf112 ?_)))))))))
              refine JL.move .none rfl ?_
              refine JL.cut 4 (fun f => f 20 = .int .i64 y27.2 ∧ f 22 = .int .i64 y28.2 ∧ f 23 = y29a_v0 ∧ f 24 = .int .i64 y29.2 ∧ f 25 = y32a_v0 ∧ f 26 = .int .i64 y32.2 ∧ f 117 = .bool ((p40 && (y21.2.2 == y24.2.2)) && (y27.1 == y28.1))) ?_ ?_
              · intro hJ46
                rcases bcases (p40 && (y21.2.2 == y24.2.2)) with hc47 | hc47
                · skip
                  refine JL.move (.some rfl rfl rfl hc47) rfl ?_
                  refine JL.move (.some rfl rfl rfl hc47) rfl ?_
                  refine JL.bin rfl rfl rfl (.some rfl rfl rfl hc47) rfl ?_
                  refine JL.pick_t (b := (p40 && (y21.2.2 == y24.2.2))) rfl hc47 .none rfl ?_
                  exact hJ46 _ ⟨rfl, rfl, rfl, rfl, rfl, rfl, and_t hc47 rfl⟩
                · skip
                  refine JL.skip (.bool rfl rfl rfl hc47) rfl ?_
                  refine JL.skip (.bool rfl rfl rfl hc47) rfl ?_
                  refine JL.skip (.bool rfl rfl rfl hc47) rfl ?_
                  refine JL.pick_f (b := (p40 && (y21.2.2 == y24.2.2))) rfl hc47 .none rfl ?_
                  exact hJ46 _ ⟨rfl, rfl, rfl, rfl, rfl, rfl, and_f hc47 rfl⟩
              · rintro f ⟨hf20, hf22, hf23, hf24, hf25, hf26, hf117⟩
                refine (JL.norm (i := 20) hf20 (JL.norm (i := 22) hf22 (JL.norm (i := 23) hf23 (JL.norm (i := 24) hf24 (JL.norm (i := 25) hf25 (JL.norm (i := 26) hf26 (JL.norm (i := 117) hf117 ?_)))))))
                refine JL.move .none rfl ?_
                refine JL.cut 4 (fun f => f 23 = y29a_v0 ∧ f 24 = .int .i64 y29.2 ∧ f 25 = y32a_v0 ∧ f 26 = .int .i64 y32.2 ∧ f 122 = .bool (((p40 && (y21.2.2 == y24.2.2)) && (y27.1 == y28.1)) && (y27.2 == y28.2))) ?_ ?_
                · intro hJ48
                  rcases bcases ((p40 && (y21.2.2 == y24.2.2)) && (y27.1 == y28.1)) with hc49 | hc49
                  · skip
                    refine JL.move (.some rfl rfl rfl hc49) rfl ?_
                    refine JL.move (.some rfl rfl rfl hc49) rfl ?_
                    refine JL.bin rfl rfl rfl (.some rfl rfl rfl hc49) rfl ?_
                    refine JL.pick_t (b := ((p40 && (y21.2.2 == y24.2.2)) && (y27.1 == y28.1))) rfl hc49 .none rfl ?_
                    exact hJ48 _ ⟨rfl, rfl, rfl, rfl, and_t hc49 rfl⟩
                  · skip
                    refine JL.skip (.bool rfl rfl rfl hc49) rfl ?_
                    refine JL.skip (.bool rfl rfl rfl hc49) rfl ?_
                    refine JL.skip (.bool rfl rfl rfl hc49) rfl ?_
                    refine JL.pick_f (b := ((p40 && (y21.2.2 == y24.2.2)) && (y27.1 == y28.1))) rfl hc49 .none rfl ?_
                    exact hJ48 _ ⟨rfl, rfl, rfl, rfl, and_f hc49 rfl⟩
                · rintro f ⟨hf23, hf24, hf25, hf26, hf122⟩
                  refine (JL.norm (i := 23) hf23 (JL.norm (i := 24) hf24 (JL.norm (i := 25) hf25 (JL.norm (i := 26) hf26 (JL.norm (i := 122) hf122 ?_)))))
                  refine JL.move .none rfl ?_
                  obtain ⟨p51, hp51, hF⟩ := bind_some hF
                  refine JL.cut 4 (fun f => f 24 = .int .i64 y29.2 ∧ f 26 = .int .i64 y32.2 ∧ f 127 = .bool p51) ?_ ?_
                  · intro hJ52
                    rcases ite_some hp51 with ⟨hc53, hF⟩ | ⟨hc53, hF⟩
                    · skip
                      refine JL.move (.some rfl rfl rfl hc53) rfl ?_
                      refine JL.move (.some rfl rfl rfl hc53) rfl ?_
                      obtain ⟨y54, hy54, hF⟩ := bind_some hF
                      refine JL.callS (c_law05_sameInts n H33 y29.1 y29a_v0 (SL.mono RInt.mono hs33 hy29a_0) y32.1 y32a_v0 hy32a_0 y54 hy54) rfl en_25 (.some rfl rfl rfl hc53) rfl ?_
                      refine JL.pick_t (b := (((p40 && (y21.2.2 == y24.2.2)) && (y27.1 == y28.1)) && (y27.2 == y28.2))) rfl hc53 .none rfl ?_
                      obtain rfl := Option.some.inj hF
                      exact hJ52 _ ⟨rfl, rfl, rfl⟩
                    · skip
                      refine JL.skip (.bool rfl rfl rfl hc53) rfl ?_
                      refine JL.skip (.bool rfl rfl rfl hc53) rfl ?_
                      refine JL.skip (.bool rfl rfl rfl hc53) rfl ?_
                      refine JL.pick_f (b := (((p40 && (y21.2.2 == y24.2.2)) && (y27.1 == y28.1)) && (y27.2 == y28.2))) rfl hc53 .none rfl ?_
                      obtain rfl := Option.some.inj hF
                      exact hJ52 _ ⟨rfl, rfl, rfl⟩
                  · rintro f ⟨hf24, hf26, hf127⟩
                    refine (JL.norm (i := 24) hf24 (JL.norm (i := 26) hf26 (JL.norm (i := 127) hf127 ?_)))
                    refine JL.move .none rfl ?_
                    refine JL.cut 4 (fun f => f 132 = .bool (p51 && (y29.2 == y32.2))) ?_ ?_
                    · intro hJ55
                      rcases bcases p51 with hc56 | hc56
                      · skip
                        refine JL.move (.some rfl rfl rfl hc56) rfl ?_
                        refine JL.move (.some rfl rfl rfl hc56) rfl ?_
                        refine JL.bin rfl rfl rfl (.some rfl rfl rfl hc56) rfl ?_
                        refine JL.pick_t (b := p51) rfl hc56 .none rfl ?_
                        exact hJ55 _ (and_t hc56 rfl)
                      · skip
                        refine JL.skip (.bool rfl rfl rfl hc56) rfl ?_
                        refine JL.skip (.bool rfl rfl rfl hc56) rfl ?_
                        refine JL.skip (.bool rfl rfl rfl hc56) rfl ?_
                        refine JL.pick_f (b := p51) rfl hc56 .none rfl ?_
                        exact hJ55 _ (and_f hc56 rfl)
                    · rintro f hf132
                      refine (JL.norm (i := 132) hf132 ?_)
                      refine JL.move .none rfl ?_
                      obtain ⟨p58, hp58, hF⟩ := bind_some hF
                      refine JL.cut 2 (fun f => f 135 = .bool p58) ?_ ?_
                      · intro hJ59
                        rcases ite_some hp58 with ⟨hc60, hF⟩ | ⟨hc60, hF⟩
                        · skip
                          obtain ⟨y61, hy61, hF⟩ := bind_some hF
                          refine JL.callS (c_law05_works n H33 y61 hy61) rfl en_12 (.some rfl rfl rfl hc60) rfl ?_
                          refine JL.pick_t (b := (p51 && (y29.2 == y32.2))) rfl hc60 .none rfl ?_
                          obtain rfl := Option.some.inj hF
                          exact hJ59 _ (rfl)
                        · skip
                          refine JL.skip (.bool rfl rfl rfl hc60) rfl ?_
                          refine JL.pick_f (b := (p51 && (y29.2 == y32.2))) rfl hc60 .none rfl ?_
                          obtain rfl := Option.some.inj hF
                          exact hJ59 _ (rfl)
                      · rintro f hf135
                        refine (JL.norm (i := 135) hf135 ?_)
                        refine JL.assign .none rfl ?_
                        refine JL.done hQ ?_
                        refine JQ.go ?_
                        refine JC.ret ?_
                        obtain rfl := Option.some.inj hF
                        exact JQ.outS rfl (.tmp .nil) rfl

end Go.Proofs.Ytcpnnfdhafbemaa
