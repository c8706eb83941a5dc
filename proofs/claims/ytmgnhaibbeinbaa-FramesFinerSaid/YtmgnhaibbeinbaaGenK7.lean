/-
  Printed by a program: functions of the translation as plain functions, and their contracts.
-/
import Derived.Test.YtmgnhaibbeinbaaGenK6
namespace Go.Proofs.Ytmgnhaibbeinbaa
open Go Go.RowKit Go.Dec
set_option linter.unusedVariables false
-- 3 ferrule/ferrulelaw01.FramesCosine
def F_law01_FramesCosine (n : Nat) (f_ : Frame) (x_ : law01_Ask) : Option Bool :=
  (F_law01_Far n f_).bind fun y3 => if y3 = true then ((F_law01_works n).bind fun y5 => some y5) else ((F_ref01_Copy n f_).bind fun y6 => (F_frames_Check n y6).bind fun y12 => (F_ref01_Check n f_).bind fun y13 => if (y12 != y13) = true then (some false) else ((F_frames_Distance n y6 x_.Section x_.R).bind fun y15 => (F_ref01_Distance n f_ x_.Section x_.R).bind fun y16 => (F_frames_Cosine n y6 x_.Section x_.R).bind fun y17 => (F_ref01_Cosine n f_ x_.Section x_.R).bind fun y20 => (F_frames_Binds n y6 x_.Section x_.R).bind fun y23 => (F_ref01_Binds n f_ x_.Section x_.R).bind fun y24 => (if (((((((y15.1 == y16.1) && (y15.2 == y16.2)) && ((y17.1.Num == y20.1.Num) && (y17.1.Den == y20.1.Den))) && ((y17.2.1.Num == y20.2.1.Num) && (y17.2.1.Den == y20.2.1.Den))) && (y17.2.2 == y20.2.2)) && (y23.1 == y24.1)) && (y23.2 == y24.2)) = true then ((F_law01_same n y6 f_).bind fun y41 => some y41) else (some false) : Option Bool).bind fun p38 => (if p38 = true then ((F_law01_works n).bind fun y46 => some y46) else (some false) : Option Bool).bind fun p43 => some p43))
set_option maxRecDepth 100000 in
set_option maxHeartbeats 40000000 in
theorem c_law01_FramesCosine (n : Nat) (H : Hp) (f_ : Frame) (f__v0 : Value) (hf__0 : SL H 7 R_Section f__v0 f_.Sections) (x_ : law01_Ask) (y : Bool) (hF : F_law01_FramesCosine n f_ x_ = some y) : SC Try.prog 3 [.agg [f__v0, .int .i64 f_.Low, .int .i64 f_.High, .int .i64 f_.Ease.Num, .int .i64 f_.Ease.Den, .int .i64 f_.Rod, .int .i64 f_.Case].toArray, .agg [.int .i64 x_.Section, .int .i64 x_.R].toArray] (.bool y) H := by
  rw [F_law01_FramesCosine] at hF
  refine SC.of (N := 127) Try.func3 rfl rfl rfl fun w => ?_
  refine JC.seq ?_
  refine JC.region (by rfl) ?_
  intro hQ
  refine JL.box (cs := [f__v0, .int .i64 f_.Low, .int .i64 f_.High, .int .i64 f_.Ease.Num, .int .i64 f_.Ease.Den, .int .i64 f_.Rod, .int .i64 f_.Case]) rfl .none rfl ?_
  intro b1
  refine JL.box (cs := [.int .i64 x_.Section, .int .i64 x_.R]) rfl .none rfl ?_
  intro b2
  refine JL.assign .none rfl ?_
  refine JL.done hQ ?_
  refine JQ.go ?_
  refine JC.seq ?_
  refine JC.seq ?_
  refine JC.region (by rfl) ?_
  intro hQ
  refine JL.loadOwn 1 az_26 rfl rfl rfl .none rfl ?_
  obtain ⟨y3, hy3, hF⟩ := bind_some hF
  refine JL.callS (c_law01_Far n H f_ f__v0 hf__0 y3 hy3) rfl en_11 .none rfl ?_
  refine JL.done hQ ?_
  refine JQ.go ?_
  rcases ite_some hF with ⟨hc4, hF⟩ | ⟨hc4, hF⟩
  · refine JC.cond_t (b := y3) rfl hc4 ?_
    refine JC.seq ?_
    refine JC.region (by rfl) ?_
    intro hQ
    obtain ⟨y5, hy5, hF⟩ := bind_some hF
    refine JL.callS (c_law01_works n H y5 hy5) rfl en_12 .none rfl ?_
    refine JL.assign .none rfl ?_
    refine JL.done hQ ?_
    refine JQ.go ?_
    refine JC.ret ?_
    refine JQ.ret_then ?_
    obtain rfl := Option.some.inj hF
    exact JQ.outS rfl (.tmp .nil) rfl
  · refine JC.cond_f (b := y3) rfl hc4 ?_
    refine JC.skip ?_
    refine JQ.go ?_
    refine JC.seq ?_
    refine JC.region (by rfl) ?_
    intro hQ
    refine JL.loadOwn 1 az_26 rfl rfl rfl .none rfl ?_
    obtain ⟨y6, hy6, hF⟩ := bind_some hF
    refine JL.callH (c_ref01_Copy n H f_ f__v0 hf__0 y6 hy6) rfl en_13 .none rfl ?_
    rintro H7 vv8 hs7 ⟨y6a_v0, rfl, hy6a_0⟩
    refine JL.alloc ze_26 .none rfl ?_
    intro b9
    refine JL.storeOwn 0 (cs := [y6a_v0, .int .i64 y6.Low, .int .i64 y6.High, .int .i64 y6.Ease.Num, .int .i64 y6.Ease.Den, .int .i64 y6.Rod, .int .i64 y6.Case]) az_26 rfl rfl rfl (one_cons (SL.one hy6a_0) (one_cons rfl (one_cons rfl (one_cons rfl (one_cons rfl (one_cons rfl (one_cons rfl one_nil))))))) rfl rfl .none ?_
    refine JL.done hQ ?_
    refine JQ.go ?_
    refine JC.seq ?_
    refine JC.seq ?_
    refine JC.draw (by rfl) mo_ (by kernel_rfl) ?_
    intro hQ
    refine JL.loadOwn 0 az_26 rfl rfl rfl .none rfl ?_
    obtain ⟨y12, hy12, hF⟩ := bind_some hF
    refine JL.callS (c_frames_Check n H7 y6 y6a_v0 hy6a_0 y12 hy12) rfl en_14 .none rfl ?_
    refine JL.loadOwn 2 az_26 rfl rfl rfl .none rfl ?_
    obtain ⟨y13, hy13, hF⟩ := bind_some hF
    refine JL.callS (c_ref01_Check n H7 f_ f__v0 (SL.mono R_Section_mono hs7 hf__0) y13 hy13) rfl en_15 .none rfl ?_
    refine JL.bin rfl rfl rfl .none rfl ?_
    refine JL.doneQ hQ ?_
    refine JQ.go ?_
    refine JC.fresh (fun f => f 2 = .pointer (some ⟨b1, 0, none⟩) ∧ f 3 = .pointer (some ⟨b2, 0, none⟩) ∧ f 4 = .bool false ∧ f 5 = .pointer (some ⟨b9, 0, none⟩) ∧ f 29 = .bool (y12 != y13)) ⟨rfl, rfl, rfl, rfl, rfl⟩ ?_
    rintro f ⟨hf2, hf3, hf4, hf5, hf29⟩
    refine (JC.norm (i := 2) hf2 (JC.norm (i := 3) hf3 (JC.norm (i := 4) hf4 (JC.norm (i := 5) hf5 (JC.norm (i := 29) hf29 ?_)))))
    rcases ite_some hF with ⟨hc14, hF⟩ | ⟨hc14, hF⟩
    · refine JC.cond_t (b := (y12 != y13)) rfl hc14 ?_
      refine JC.seq ?_
      refine JC.region (by rfl) ?_
      intro hQ
      refine JL.assign .none rfl ?_
      refine JL.done hQ ?_
      refine JQ.go ?_
      refine JC.ret ?_
      refine JQ.ret_then ?_
      obtain rfl := Option.some.inj hF
      exact JQ.outS rfl (.tmp .nil) rfl
    · refine JC.cond_f (b := (y12 != y13)) rfl hc14 ?_
      refine JC.skip ?_
      refine JQ.go ?_
      refine JC.seq ?_
      refine JC.region (by rfl) ?_
      intro hQ
      refine JL.loadOwn 0 az_26 rfl rfl rfl .none rfl ?_
      refine JL.fieldAddr fo_28_0 rfl .none rfl ?_
      refine JL.loadOwn 1 az_3 rfl rfl rfl .none rfl ?_
      refine JL.fieldAddr fo_28_1 rfl .none rfl ?_
      refine JL.loadOwn 1 az_3 rfl rfl rfl .none rfl ?_
      obtain ⟨y15, hy15, hF⟩ := bind_some hF
      refine JL.callS (c_frames_Distance n H7 y6 y6a_v0 hy6a_0 x_.Section x_.R y15 hy15) rfl en_16 .none rfl ?_
      refine JL.move .none rfl ?_
      refine JL.extract rfl rfl .none rfl ?_
      refine JL.extract rfl rfl .none rfl ?_
      refine JL.assign .none rfl ?_
      refine JL.assign .none rfl ?_
      refine JL.done hQ ?_
      refine JQ.go ?_
      refine JC.fresh (fun f => f 2 = .pointer (some ⟨b1, 0, none⟩) ∧ f 3 = .pointer (some ⟨b2, 0, none⟩) ∧ f 4 = .bool false ∧ f 5 = .pointer (some ⟨b9, 0, none⟩) ∧ f 6 = .int .i64 y15.1 ∧ f 7 = .int .i64 y15.2) ⟨rfl, rfl, rfl, rfl, rfl, rfl⟩ ?_
      rintro f ⟨hf2, hf3, hf4, hf5, hf6, hf7⟩
      refine (JC.norm (i := 2) hf2 (JC.norm (i := 3) hf3 (JC.norm (i := 4) hf4 (JC.norm (i := 5) hf5 (JC.norm (i := 6) hf6 (JC.norm (i := 7) hf7 ?_))))))
      refine JC.seq ?_
      refine JC.region (by rfl) ?_
      intro hQ
      refine JL.loadOwn 2 az_26 rfl rfl rfl .none rfl ?_
      refine JL.fieldAddr fo_28_0 rfl .none rfl ?_
      refine JL.loadOwn 1 az_3 rfl rfl rfl .none rfl ?_
      refine JL.fieldAddr fo_28_1 rfl .none rfl ?_
      refine JL.loadOwn 1 az_3 rfl rfl rfl .none rfl ?_
      obtain ⟨y16, hy16, hF⟩ := bind_some hF
      refine JL.callS (c_ref01_Distance n H7 f_ f__v0 (SL.mono R_Section_mono hs7 hf__0) x_.Section x_.R y16 hy16) rfl en_17 .none rfl ?_
      refine JL.move .none rfl ?_
      refine JL.extract rfl rfl .none rfl ?_
      refine JL.extract rfl rfl .none rfl ?_
      refine JL.assign .none rfl ?_
      refine JL.assign .none rfl ?_
      refine JL.done hQ ?_
      refine JQ.go ?_
      refine JC.fresh (fun f => f 2 = .pointer (some ⟨b1, 0, none⟩) ∧ f 3 = .pointer (some ⟨b2, 0, none⟩) ∧ f 4 = .bool false ∧ f 5 = .pointer (some ⟨b9, 0, none⟩) ∧ f 6 = .int .i64 y15.1 ∧ f 7 = .int .i64 y15.2 ∧ f 8 = .int .i64 y16.1 ∧ f 9 = .int .i64 y16.2) ⟨rfl, rfl, rfl, rfl, rfl, rfl, rfl, rfl⟩ ?_
      rintro f ⟨hf2, hf3, hf4, hf5, hf6, hf7, hf8, hf9⟩
      refine (JC.norm (i := 2) hf2 (JC.norm (i := 3) hf3 (JC.norm (i := 4) hf4 (JC.norm (i := 5) hf5 (JC.norm (i := 6) hf6 (JC.norm (i := 7) hf7 (JC.norm (i := 8) hf8 (JC.norm (i := 9) hf9 ?_))))))))
      refine JC.seq ?_
      refine JC.region (by rfl) ?_
      intro hQ
      refine JL.loadOwn 0 az_26 rfl rfl rfl .none rfl ?_
      refine JL.fieldAddr fo_28_0 rfl .none rfl ?_
      refine JL.loadOwn 1 az_3 rfl rfl rfl .none rfl ?_
      refine JL.fieldAddr fo_28_1 rfl .none rfl ?_
      refine JL.loadOwn 1 az_3 rfl rfl rfl .none rfl ?_
      obtain ⟨y17, hy17, hF⟩ := bind_some hF
      refine JL.callS (c_frames_Cosine n H7 y6 y6a_v0 hy6a_0 x_.Section x_.R y17 hy17) rfl en_18 .none rfl ?_
      refine JL.move .none rfl ?_
      refine JL.extract rfl rfl .none rfl ?_
      refine JL.extract rfl rfl .none rfl ?_
      refine JL.extract rfl rfl .none rfl ?_
      refine JL.alloc ze_24 .none rfl ?_
      intro b18
      refine JL.alloc ze_24 .none rfl ?_
      intro b19
      refine JL.storeOwn 1 (cs := [.int .i64 y17.1.Num, .int .i64 y17.1.Den]) az_24 rfl rfl rfl (one_cons rfl (one_cons rfl one_nil)) rfl rfl .none ?_
      refine JL.storeOwn 0 (cs := [.int .i64 y17.2.1.Num, .int .i64 y17.2.1.Den]) az_24 rfl rfl rfl (one_cons rfl (one_cons rfl one_nil)) rfl rfl .none ?_
      refine JL.assign .none rfl ?_
      refine JL.done hQ ?_
      refine JQ.go ?_
      refine JC.fresh (fun f => f 2 = .pointer (some ⟨b1, 0, none⟩) ∧ f 3 = .pointer (some ⟨b2, 0, none⟩) ∧ f 4 = .bool false ∧ f 5 = .pointer (some ⟨b9, 0, none⟩) ∧ f 6 = .int .i64 y15.1 ∧ f 7 = .int .i64 y15.2 ∧ f 8 = .int .i64 y16.1 ∧ f 9 = .int .i64 y16.2 ∧ f 10 = .pointer (some ⟨b18, 0, none⟩) ∧ f 11 = .pointer (some ⟨b19, 0, none⟩) ∧ f 12 = .int .i64 y17.2.2) ⟨rfl, rfl, rfl, rfl, rfl, rfl, rfl, rfl, rfl, rfl, rfl⟩ ?_
      rintro f ⟨hf2, hf3, hf4, hf5, hf6, hf7, hf8, hf9, hf10, hf11, hf12⟩
      refine (JC.norm (i := 2) hf2 (JC.norm (i := 3) hf3 (JC.norm (i := 4) hf4 (JC.norm (i := 5) hf5 (JC.norm (i := 6) hf6 (JC.norm (i := 7) hf7 (JC.norm (i := 8) hf8 (JC.norm (i := 9) hf9 (JC.norm (i := 10) hf10 (JC.norm (i := 11) hf11 (JC.norm (i := 12) hf12 ?_)))))))))))
      refine JC.seq ?_
      refine JC.region (by rfl) ?_
      intro hQ
      refine JL.loadOwn 4 az_26 rfl rfl rfl .none rfl ?_
      refine JL.fieldAddr fo_28_0 rfl .none rfl ?_
      refine JL.loadOwn 3 az_3 rfl rfl rfl .none rfl ?_
      refine JL.fieldAddr fo_28_1 rfl .none rfl ?_
      refine JL.loadOwn 3 az_3 rfl rfl rfl .none rfl ?_
      obtain ⟨y20, hy20, hF⟩ := bind_some hF
      refine JL.callS (c_ref01_Cosine n H7 f_ f__v0 (SL.mono R_Section_mono hs7 hf__0) x_.Section x_.R y20 hy20) rfl en_19 .none rfl ?_
      refine JL.move .none rfl ?_
      refine JL.extract rfl rfl .none rfl ?_
      refine JL.extract rfl rfl .none rfl ?_
      refine JL.extract rfl rfl .none rfl ?_
      refine JL.alloc ze_24 .none rfl ?_
      intro b21
      refine JL.alloc ze_24 .none rfl ?_
      intro b22
      refine JL.storeOwn 1 (cs := [.int .i64 y20.1.Num, .int .i64 y20.1.Den]) az_24 rfl rfl rfl (one_cons rfl (one_cons rfl one_nil)) rfl rfl .none ?_
      refine JL.storeOwn 0 (cs := [.int .i64 y20.2.1.Num, .int .i64 y20.2.1.Den]) az_24 rfl rfl rfl (one_cons rfl (one_cons rfl one_nil)) rfl rfl .none ?_
      refine JL.assign .none rfl ?_
      refine JL.done hQ ?_
      refine JQ.go ?_
      refine JC.fresh (fun f => f 2 = .pointer (some ⟨b1, 0, none⟩) ∧ f 3 = .pointer (some ⟨b2, 0, none⟩) ∧ f 4 = .bool false ∧ f 5 = .pointer (some ⟨b9, 0, none⟩) ∧ f 6 = .int .i64 y15.1 ∧ f 7 = .int .i64 y15.2 ∧ f 8 = .int .i64 y16.1 ∧ f 9 = .int .i64 y16.2 ∧ f 10 = .pointer (some ⟨b18, 0, none⟩) ∧ f 11 = .pointer (some ⟨b19, 0, none⟩) ∧ f 12 = .int .i64 y17.2.2 ∧ f 13 = .pointer (some ⟨b21, 0, none⟩) ∧ f 14 = .pointer (some ⟨b22, 0, none⟩) ∧ f 15 = .int .i64 y20.2.2) ⟨rfl, rfl, rfl, rfl, rfl, rfl, rfl, rfl, rfl, rfl, rfl, rfl, rfl, rfl⟩ ?_
      rintro f ⟨hf2, hf3, hf4, hf5, hf6, hf7, hf8, hf9, hf10, hf11, hf12, hf13, hf14, hf15⟩
      refine (JC.norm (i := 2) hf2 (JC.norm (i := 3) hf3 (JC.norm (i := 4) hf4 (JC.norm (i := 5) hf5 (JC.norm (i := 6) hf6 (JC.norm (i := 7) hf7 (JC.norm (i := 8) hf8 (JC.norm (i := 9) hf9 (JC.norm (i := 10) hf10 (JC.norm (i := 11) hf11 (JC.norm (i := 12) hf12 (JC.norm (i := 13) hf13 (JC.norm (i := 14) hf14 (JC.norm (i := 15) hf15 ?_))))))))))))))
      refine JC.seq ?_
      refine JC.region (by rfl) ?_
      intro hQ
      refine JL.loadOwn 4 az_26 rfl rfl rfl .none rfl ?_
      refine JL.fieldAddr fo_28_0 rfl .none rfl ?_
      refine JL.loadOwn 5 az_3 rfl rfl rfl .none rfl ?_
      refine JL.fieldAddr fo_28_1 rfl .none rfl ?_
      refine JL.loadOwn 5 az_3 rfl rfl rfl .none rfl ?_
      obtain ⟨y23, hy23, hF⟩ := bind_some hF
      refine JL.callS (c_frames_Binds n H7 y6 y6a_v0 hy6a_0 x_.Section x_.R y23 hy23) rfl en_20 .none rfl ?_
      refine JL.move .none rfl ?_
      refine JL.extract rfl rfl .none rfl ?_
      refine JL.extract rfl rfl .none rfl ?_
      refine JL.assign .none rfl ?_
      refine JL.assign .none rfl ?_
      refine JL.done hQ ?_
      refine JQ.go ?_
      refine JC.fresh (fun f => f 2 = .pointer (some ⟨b1, 0, none⟩) ∧ f 3 = .pointer (some ⟨b2, 0, none⟩) ∧ f 4 = .bool false ∧ f 5 = .pointer (some ⟨b9, 0, none⟩) ∧ f 6 = .int .i64 y15.1 ∧ f 7 = .int .i64 y15.2 ∧ f 8 = .int .i64 y16.1 ∧ f 9 = .int .i64 y16.2 ∧ f 10 = .pointer (some ⟨b18, 0, none⟩) ∧ f 11 = .pointer (some ⟨b19, 0, none⟩) ∧ f 12 = .int .i64 y17.2.2 ∧ f 13 = .pointer (some ⟨b21, 0, none⟩) ∧ f 14 = .pointer (some ⟨b22, 0, none⟩) ∧ f 15 = .int .i64 y20.2.2 ∧ f 16 = .int .i64 y23.1 ∧ f 17 = .int .i64 y23.2) ⟨rfl, rfl, rfl, rfl, rfl, rfl, rfl, rfl, rfl, rfl, rfl, rfl, rfl, rfl, rfl, rfl⟩ ?_
      rintro f ⟨hf2, hf3, hf4, hf5, hf6, hf7, hf8, hf9, hf10, hf11, hf12, hf13, hf14, hf15, hf16, hf17⟩
      refine (JC.norm (i := 2) hf2 (JC.norm (i := 3) hf3 (JC.norm (i := 4) hf4 (JC.norm (i := 5) hf5 (JC.norm (i := 6) hf6 (JC.norm (i := 7) hf7 (JC.norm (i := 8) hf8 (JC.norm (i := 9) hf9 (JC.norm (i := 10) hf10 (JC.norm (i := 11) hf11 (JC.norm (i := 12) hf12 (JC.norm (i := 13) hf13 (JC.norm (i := 14) hf14 (JC.norm (i := 15) hf15 (JC.norm (i := 16) hf16 (JC.norm (i := 17) hf17 ?_))))))))))))))))
      refine JC.seq ?_
      refine JC.region (by rfl) ?_
      intro hQ
      refine JL.loadOwn 6 az_26 rfl rfl rfl .none rfl ?_
      refine JL.fieldAddr fo_28_0 rfl .none rfl ?_
      refine JL.loadOwn 5 az_3 rfl rfl rfl .none rfl ?_
      refine JL.fieldAddr fo_28_1 rfl .none rfl ?_
      refine JL.loadOwn 5 az_3 rfl rfl rfl .none rfl ?_
      obtain ⟨y24, hy24, hF⟩ := bind_some hF
      refine JL.callS (c_ref01_Binds n H7 f_ f__v0 (SL.mono R_Section_mono hs7 hf__0) x_.Section x_.R y24 hy24) rfl en_21 .none rfl ?_
      refine JL.move .none rfl ?_
      refine JL.extract rfl rfl .none rfl ?_
      refine JL.extract rfl rfl .none rfl ?_
      refine JL.assign .none rfl ?_
      refine JL.assign .none rfl ?_
      refine JL.done hQ ?_
      refine JQ.go ?_
      refine JC.fresh (fun f => f 2 = .pointer (some ⟨b1, 0, none⟩) ∧ f 4 = .bool false ∧ f 5 = .pointer (some ⟨b9, 0, none⟩) ∧ f 6 = .int .i64 y15.1 ∧ f 7 = .int .i64 y15.2 ∧ f 8 = .int .i64 y16.1 ∧ f 9 = .int .i64 y16.2 ∧ f 10 = .pointer (some ⟨b18, 0, none⟩) ∧ f 11 = .pointer (some ⟨b19, 0, none⟩) ∧ f 12 = .int .i64 y17.2.2 ∧ f 13 = .pointer (some ⟨b21, 0, none⟩) ∧ f 14 = .pointer (some ⟨b22, 0, none⟩) ∧ f 15 = .int .i64 y20.2.2 ∧ f 16 = .int .i64 y23.1 ∧ f 17 = .int .i64 y23.2 ∧ f 18 = .int .i64 y24.1 ∧ f 19 = .int .i64 y24.2) ⟨rfl, rfl, rfl, rfl, rfl, rfl, rfl, rfl, rfl, rfl, rfl, rfl, rfl, rfl, rfl, rfl, rfl⟩ ?_
      rintro f ⟨hf2, hf4, hf5, hf6, hf7, hf8, hf9, hf10, hf11, hf12, hf13, hf14, hf15, hf16, hf17, hf18, hf19⟩
      refine (JC.norm (i := 2) hf2 (JC.norm (i := 4) hf4 (JC.norm (i := 5) hf5 (JC.norm (i := 6) hf6 (JC.norm (i := 7) hf7 (JC.norm (i := 8) hf8 (JC.norm (i := 9) hf9 (JC.norm (i := 10) hf10 (JC.norm (i := 11) hf11 (JC.norm (i := 12) hf12 (JC.norm (i := 13) hf13 (JC.norm (i := 14) hf14 (JC.norm (i := 15) hf15 (JC.norm (i := 16) hf16 (JC.norm (i := 17) hf17 (JC.norm (i := 18) hf18 (JC.norm (i := 19) hf19 ?_)))))))))))))))))
      refine JC.seq ?_
      refine JC.region (by rfl) ?_
      intro hQ
      refine JL.move .none rfl ?_
      refine JL.move .none rfl ?_
      refine JL.bin rfl rfl rfl .none rfl ?_
      refine JL.move .none rfl ?_
      refine JL.cut 4 (fun f => f 2 = .pointer (some ⟨b1, 0, none⟩) ∧ f 5 = .pointer (some ⟨b9, 0, none⟩) ∧ f 10 = .pointer (some ⟨b18, 0, none⟩) ∧ f 11 = .pointer (some ⟨b19, 0, none⟩) ∧ f 12 = .int .i64 y17.2.2 ∧ f 13 = .pointer (some ⟨b21, 0, none⟩) ∧ f 14 = .pointer (some ⟨b22, 0, none⟩) ∧ f 15 = .int .i64 y20.2.2 ∧ f 16 = .int .i64 y23.1 ∧ f 17 = .int .i64 y23.2 ∧ f 18 = .int .i64 y24.1 ∧ f 19 = .int .i64 y24.2 ∧ f 93 = .bool ((y15.1 == y16.1) && (y15.2 == y16.2))) ?_ ?_
      · intro hJ25
        rcases bcases (y15.1 == y16.1) with hc26 | hc26
        · skip
          refine JL.move (.some rfl rfl rfl hc26) rfl ?_
          refine JL.move (.some rfl rfl rfl hc26) rfl ?_
          refine JL.bin rfl rfl rfl (.some rfl rfl rfl hc26) rfl ?_
          refine JL.pick_t (b := (y15.1 == y16.1)) rfl hc26 .none rfl ?_
          exact hJ25 _ ⟨rfl, rfl, rfl, rfl, rfl, rfl, rfl, rfl, rfl, rfl, rfl, rfl, and_t hc26 rfl⟩
        · skip
          refine JL.skip (.bool rfl rfl rfl hc26) rfl ?_
          refine JL.skip (.bool rfl rfl rfl hc26) rfl ?_
          refine JL.skip (.bool rfl rfl rfl hc26) rfl ?_
          refine JL.pick_f (b := (y15.1 == y16.1)) rfl hc26 .none rfl ?_
          exact hJ25 _ ⟨rfl, rfl, rfl, rfl, rfl, rfl, rfl, rfl, rfl, rfl, rfl, rfl, and_f hc26 rfl⟩
      · rintro f ⟨hf2, hf5, hf10, hf11, hf12, hf13, hf14, hf15, hf16, hf17, hf18, hf19, hf93⟩
        refine (JL.norm (i := 2) hf2 (JL.norm (i := 5) hf5 (JL.norm (i := 10) hf10 (JL.norm (i := 11) hf11 (JL.norm (i := 12) hf12 (JL.norm (i := 13) hf13 (JL.norm (i := 14) hf14 (JL.norm (i := 15) hf15 (JL.norm (i := 16) hf16 (JL.norm (i := 17) hf17 (JL.norm (i := 18) hf18 (JL.norm (i := 19) hf19 (JL.norm (i := 93) hf93 ?_)))))))))))))
        refine JL.move .none rfl ?_
        refine JL.cut 4 (fun f => f 2 = .pointer (some ⟨b1, 0, none⟩) ∧ f 5 = .pointer (some ⟨b9, 0, none⟩) ∧ f 11 = .pointer (some ⟨b19, 0, none⟩) ∧ f 12 = .int .i64 y17.2.2 ∧ f 14 = .pointer (some ⟨b22, 0, none⟩) ∧ f 15 = .int .i64 y20.2.2 ∧ f 16 = .int .i64 y23.1 ∧ f 17 = .int .i64 y23.2 ∧ f 18 = .int .i64 y24.1 ∧ f 19 = .int .i64 y24.2 ∧ f 98 = .bool (((y15.1 == y16.1) && (y15.2 == y16.2)) && ((y17.1.Num == y20.1.Num) && (y17.1.Den == y20.1.Den)))) ?_ ?_
        · intro hJ27
          rcases bcases ((y15.1 == y16.1) && (y15.2 == y16.2)) with hc28 | hc28
          · skip
            refine JL.loadOwn 3 az_24 rfl rfl rfl (.some rfl rfl rfl hc28) rfl ?_
            refine JL.loadOwn 1 az_24 rfl rfl rfl (.some rfl rfl rfl hc28) rfl ?_
            refine JL.eqAgg eqg_24 rfl rfl (fun w => eqa_24 y17.1.Num y17.1.Den y20.1.Num y20.1.Den w) (.some rfl rfl rfl hc28) rfl ?_
            refine JL.pick_t (b := ((y15.1 == y16.1) && (y15.2 == y16.2))) rfl hc28 .none rfl ?_
            exact hJ27 _ ⟨rfl, rfl, rfl, rfl, rfl, rfl, rfl, rfl, rfl, rfl, and_t hc28 rfl⟩
          · skip
            refine JL.skip (.bool rfl rfl rfl hc28) rfl ?_
            refine JL.skip (.bool rfl rfl rfl hc28) rfl ?_
            refine JL.skip (.bool rfl rfl rfl hc28) rfl ?_
            refine JL.pick_f (b := ((y15.1 == y16.1) && (y15.2 == y16.2))) rfl hc28 .none rfl ?_
            exact hJ27 _ ⟨rfl, rfl, rfl, rfl, rfl, rfl, rfl, rfl, rfl, rfl, and_f hc28 rfl⟩
        · rintro f ⟨hf2, hf5, hf11, hf12, hf14, hf15, hf16, hf17, hf18, hf19, hf98⟩
          refine (JL.norm (i := 2) hf2 (JL.norm (i := 5) hf5 (JL.norm (i := 11) hf11 (JL.norm (i := 12) hf12 (JL.norm (i := 14) hf14 (JL.norm (i := 15) hf15 (JL.norm (i := 16) hf16 (JL.norm (i := 17) hf17 (JL.norm (i := 18) hf18 (JL.norm (i := 19) hf19 (JL.norm (i := 98) hf98 ?_)))))))))))
          refine JL.move .none rfl ?_
          refine JL.cut 4 (fun f => f 2 = .pointer (some ⟨b1, 0, none⟩) ∧ f 5 = .pointer (some ⟨b9, 0, none⟩) ∧ f 12 = .int .i64 y17.2.2 ∧ f 15 = .int .i64 y20.2.2 ∧ f 16 = .int .i64 y23.1 ∧ f 17 = .int .i64 y23.2 ∧ f 18 = .int .i64 y24.1 ∧ f 19 = .int .i64 y24.2 ∧ f 103 = .bool ((((y15.1 == y16.1) && (y15.2 == y16.2)) && ((y17.1.Num == y20.1.Num) && (y17.1.Den == y20.1.Den))) && ((y17.2.1.Num == y20.2.1.Num) && (y17.2.1.Den == y20.2.1.Den)))) ?_ ?_
          · intro hJ29
            rcases bcases (((y15.1 == y16.1) && (y15.2 == y16.2)) && ((y17.1.Num == y20.1.Num) && (y17.1.Den == y20.1.Den))) with hc30 | hc30
            · skip
              refine JL.loadOwn 2 az_24 rfl rfl rfl (.some rfl rfl rfl hc30) rfl ?_
              refine JL.loadOwn 0 az_24 rfl rfl rfl (.some rfl rfl rfl hc30) rfl ?_
              refine JL.eqAgg eqg_24 rfl rfl (fun w => eqa_24 y17.2.1.Num y17.2.1.Den y20.2.1.Num y20.2.1.Den w) (.some rfl rfl rfl hc30) rfl ?_
              refine JL.pick_t (b := (((y15.1 == y16.1) && (y15.2 == y16.2)) && ((y17.1.Num == y20.1.Num) && (y17.1.Den == y20.1.Den)))) rfl hc30 .none rfl ?_
              exact hJ29 _ ⟨rfl, rfl, rfl, rfl, rfl, rfl, rfl, rfl, and_t hc30 rfl⟩
            · skip
              refine JL.skip (.bool rfl rfl rfl hc30) rfl ?_
              refine JL.skip (.bool rfl rfl rfl hc30) rfl ?_
              refine JL.skip (.bool rfl rfl rfl hc30) rfl ?_
              refine JL.pick_f (b := (((y15.1 == y16.1) && (y15.2 == y16.2)) && ((y17.1.Num == y20.1.Num) && (y17.1.Den == y20.1.Den)))) rfl hc30 .none rfl ?_
              exact hJ29 _ ⟨rfl, rfl, rfl, rfl, rfl, rfl, rfl, rfl, and_f hc30 rfl⟩
          · rintro f ⟨hf2, hf5, hf12, hf15, hf16, hf17, hf18, hf19, hf103⟩
            refine (JL.norm (i := 2) hf2 (JL.norm (i := 5) hf5 (JL.norm (i := 12) hf12 (JL.norm (i := 15) hf15 (JL.norm (i := 16) hf16 (JL.norm (i := 17) hf17 (JL.norm (i := 18) hf18 (JL.norm (i := 19) hf19 (JL.norm (i := 103) hf103 ?_)))))))))
            refine JL.move .none rfl ?_
            refine JL.cut 4 (fun f => f 2 = .pointer (some ⟨b1, 0, none⟩) ∧ f 5 = .pointer (some ⟨b9, 0, none⟩) ∧ f 16 = .int .i64 y23.1 ∧ f 17 = .int .i64 y23.2 ∧ f 18 = .int .i64 y24.1 ∧ f 19 = .int .i64 y24.2 ∧ f 108 = .bool (((((y15.1 == y16.1) && (y15.2 == y16.2)) && ((y17.1.Num == y20.1.Num) && (y17.1.Den == y20.1.Den))) && ((y17.2.1.Num == y20.2.1.Num) && (y17.2.1.Den == y20.2.1.Den))) && (y17.2.2 == y20.2.2))) ?_ ?_
            · intro hJ31
              rcases bcases ((((y15.1 == y16.1) && (y15.2 == y16.2)) && ((y17.1.Num == y20.1.Num) && (y17.1.Den == y20.1.Den))) && ((y17.2.1.Num == y20.2.1.Num) && (y17.2.1.Den == y20.2.1.Den))) with hc32 | hc32
              · skip
                refine JL.move (.some rfl rfl rfl hc32) rfl ?_
                refine JL.move (.some rfl rfl rfl hc32) rfl ?_
                refine JL.bin rfl rfl rfl (.some rfl rfl rfl hc32) rfl ?_
                refine JL.pick_t (b := ((((y15.1 == y16.1) && (y15.2 == y16.2)) && ((y17.1.Num == y20.1.Num) && (y17.1.Den == y20.1.Den))) && ((y17.2.1.Num == y20.2.1.Num) && (y17.2.1.Den == y20.2.1.Den)))) rfl hc32 .none rfl ?_
                exact hJ31 _ ⟨rfl, rfl, rfl, rfl, rfl, rfl, and_t hc32 rfl⟩
              · skip
                refine JL.skip (.bool rfl rfl rfl hc32) rfl ?_
                refine JL.skip (.bool rfl rfl rfl hc32) rfl ?_
                refine JL.skip (.bool rfl rfl rfl hc32) rfl ?_
                refine JL.pick_f (b := ((((y15.1 == y16.1) && (y15.2 == y16.2)) && ((y17.1.Num == y20.1.Num) && (y17.1.Den == y20.1.Den))) && ((y17.2.1.Num == y20.2.1.Num) && (y17.2.1.Den == y20.2.1.Den)))) rfl hc32 .none rfl ?_
                exact hJ31 _ ⟨rfl, rfl, rfl, rfl, rfl, rfl, and_f hc32 rfl⟩
            · rintro f ⟨hf2, hf5, hf16, hf17, hf18, hf19, hf108⟩
              refine (JL.norm (i := 2) hf2 (JL.norm (i := 5) hf5 (JL.norm (i := 16) hf16 (JL.norm (i := 17) hf17 (JL.norm (i := 18) hf18 (JL.norm (i := 19) hf19 (JL.norm (i := 108) hf108 ?_)))))))
              refine JL.move .none rfl ?_
              refine JL.cut 4 (fun f => f 2 = .pointer (some ⟨b1, 0, none⟩) ∧ f 5 = .pointer (some ⟨b9, 0, none⟩) ∧ f 17 = .int .i64 y23.2 ∧ f 19 = .int .i64 y24.2 ∧ f 113 = .bool ((((((y15.1 == y16.1) && (y15.2 == y16.2)) && ((y17.1.Num == y20.1.Num) && (y17.1.Den == y20.1.Den))) && ((y17.2.1.Num == y20.2.1.Num) && (y17.2.1.Den == y20.2.1.Den))) && (y17.2.2 == y20.2.2)) && (y23.1 == y24.1))) ?_ ?_
              · intro hJ33
                rcases bcases (((((y15.1 == y16.1) && (y15.2 == y16.2)) && ((y17.1.Num == y20.1.Num) && (y17.1.Den == y20.1.Den))) && ((y17.2.1.Num == y20.2.1.Num) && (y17.2.1.Den == y20.2.1.Den))) && (y17.2.2 == y20.2.2)) with hc34 | hc34
                · skip
                  refine JL.move (.some rfl rfl rfl hc34) rfl ?_
                  refine JL.move (.some rfl rfl rfl hc34) rfl ?_
                  refine JL.bin rfl rfl rfl (.some rfl rfl rfl hc34) rfl ?_
                  refine JL.pick_t (b := (((((y15.1 == y16.1) && (y15.2 == y16.2)) && ((y17.1.Num == y20.1.Num) && (y17.1.Den == y20.1.Den))) && ((y17.2.1.Num == y20.2.1.Num) && (y17.2.1.Den == y20.2.1.Den))) && (y17.2.2 == y20.2.2))) rfl hc34 .none rfl ?_
                  exact hJ33 _ ⟨rfl, rfl, rfl, rfl, and_t hc34 rfl⟩
                · skip
                  refine JL.skip (.bool rfl rfl rfl hc34) rfl ?_
                  refine JL.skip (.bool rfl rfl rfl hc34) rfl ?_
                  refine JL.skip (.bool rfl rfl rfl hc34) rfl ?_
                  refine JL.pick_f (b := (((((y15.1 == y16.1) && (y15.2 == y16.2)) && ((y17.1.Num == y20.1.Num) && (y17.1.Den == y20.1.Den))) && ((y17.2.1.Num == y20.2.1.Num) && (y17.2.1.Den == y20.2.1.Den))) && (y17.2.2 == y20.2.2))) rfl hc34 .none rfl ?_
                  exact hJ33 _ ⟨rfl, rfl, rfl, rfl, and_f hc34 rfl⟩
              · rintro f ⟨hf2, hf5, hf17, hf19, hf113⟩
                refine (JL.norm (i := 2) hf2 (JL.norm (i := 5) hf5 (JL.norm (i := 17) hf17 (JL.norm (i := 19) hf19 (JL.norm (i := 113) hf113 ?_)))))
                refine JL.move .none rfl ?_
                refine JL.cut 4 (fun f => f 2 = .pointer (some ⟨b1, 0, none⟩) ∧ f 5 = .pointer (some ⟨b9, 0, none⟩) ∧ f 118 = .bool (((((((y15.1 == y16.1) && (y15.2 == y16.2)) && ((y17.1.Num == y20.1.Num) && (y17.1.Den == y20.1.Den))) && ((y17.2.1.Num == y20.2.1.Num) && (y17.2.1.Den == y20.2.1.Den))) && (y17.2.2 == y20.2.2)) && (y23.1 == y24.1)) && (y23.2 == y24.2))) ?_ ?_
                · intro hJ35
                  rcases bcases ((((((y15.1 == y16.1) && (y15.2 == y16.2)) && ((y17.1.Num == y20.1.Num) && (y17.1.Den == y20.1.Den))) && ((y17.2.1.Num == y20.2.1.Num) && (y17.2.1.Den == y20.2.1.Den))) && (y17.2.2 == y20.2.2)) && (y23.1 == y24.1)) with hc36 | hc36
                  · skip
                    refine JL.move (.some rfl rfl rfl hc36) rfl ?_
                    refine JL.move (.some rfl rfl rfl hc36) rfl ?_
                    refine JL.bin rfl rfl rfl (.some rfl rfl rfl hc36) rfl ?_
                    refine JL.pick_t (b := ((((((y15.1 == y16.1) && (y15.2 == y16.2)) && ((y17.1.Num == y20.1.Num) && (y17.1.Den == y20.1.Den))) && ((y17.2.1.Num == y20.2.1.Num) && (y17.2.1.Den == y20.2.1.Den))) && (y17.2.2 == y20.2.2)) && (y23.1 == y24.1))) rfl hc36 .none rfl ?_
                    exact hJ35 _ ⟨rfl, rfl, and_t hc36 rfl⟩
                  · skip
                    refine JL.skip (.bool rfl rfl rfl hc36) rfl ?_
                    refine JL.skip (.bool rfl rfl rfl hc36) rfl ?_
                    refine JL.skip (.bool rfl rfl rfl hc36) rfl ?_
                    refine JL.pick_f (b := ((((((y15.1 == y16.1) && (y15.2 == y16.2)) && ((y17.1.Num == y20.1.Num) && (y17.1.Den == y20.1.Den))) && ((y17.2.1.Num == y20.2.1.Num) && (y17.2.1.Den == y20.2.1.Den))) && (y17.2.2 == y20.2.2)) && (y23.1 == y24.1))) rfl hc36 .none rfl ?_
                    exact hJ35 _ ⟨rfl, rfl, and_f hc36 rfl⟩
                · rintro f ⟨hf2, hf5, hf118⟩
                  refine (JL.norm (i := 2) hf2 (JL.norm (i := 5) hf5 (JL.norm (i := 118) hf118 ?_)))
                  refine JL.move .none rfl ?_
                  obtain ⟨p38, hp38, hF⟩ := bind_some hF
                  refine JL.cut 4 (fun f => f 123 = .bool p38) ?_ ?_
                  · intro hJ39
                    rcases ite_some hp38 with ⟨hc40, hF⟩ | ⟨hc40, hF⟩
                    · skip
                      refine JL.loadOwn 4 az_26 rfl rfl rfl (.some rfl rfl rfl hc40) rfl ?_
                      refine JL.loadOwn 6 az_26 rfl rfl rfl (.some rfl rfl rfl hc40) rfl ?_
                      obtain ⟨y41, hy41, hF⟩ := bind_some hF
                      refine JL.callS (c_law01_same n H7 y6 y6a_v0 hy6a_0 f_ f__v0 (SL.mono R_Section_mono hs7 hf__0) y41 hy41) rfl en_22 (.some rfl rfl rfl hc40) rfl ?_
                      refine JL.pick_t (b := (((((((y15.1 == y16.1) && (y15.2 == y16.2)) && ((y17.1.Num == y20.1.Num) && (y17.1.Den == y20.1.Den))) && ((y17.2.1.Num == y20.2.1.Num) && (y17.2.1.Den == y20.2.1.Den))) && (y17.2.2 == y20.2.2)) && (y23.1 == y24.1)) && (y23.2 == y24.2))) rfl hc40 .none rfl ?_
                      obtain rfl := Option.some.inj hF
                      exact hJ39 _ (rfl)
                    · skip
                      refine JL.skip (.bool rfl rfl rfl hc40) rfl ?_
                      refine JL.skip (.bool rfl rfl rfl hc40) rfl ?_
                      refine JL.skip (.bool rfl rfl rfl hc40) rfl ?_
                      refine JL.pick_f (b := (((((((y15.1 == y16.1) && (y15.2 == y16.2)) && ((y17.1.Num == y20.1.Num) && (y17.1.Den == y20.1.Den))) && ((y17.2.1.Num == y20.2.1.Num) && (y17.2.1.Den == y20.2.1.Den))) && (y17.2.2 == y20.2.2)) && (y23.1 == y24.1)) && (y23.2 == y24.2))) rfl hc40 .none rfl ?_
                      obtain rfl := Option.some.inj hF
                      exact hJ39 _ (rfl)
                  · rintro f hf123
                    refine (JL.norm (i := 123) hf123 ?_)
                    refine JL.move .none rfl ?_
                    obtain ⟨p43, hp43, hF⟩ := bind_some hF
                    refine JL.cut 2 (fun f => f 126 = .bool p43) ?_ ?_
                    · intro hJ44
                      rcases ite_some hp43 with ⟨hc45, hF⟩ | ⟨hc45, hF⟩
                      · skip
                        obtain ⟨y46, hy46, hF⟩ := bind_some hF
                        refine JL.callS (c_law01_works n H7 y46 hy46) rfl en_12 (.some rfl rfl rfl hc45) rfl ?_
                        refine JL.pick_t (b := p38) rfl hc45 .none rfl ?_
                        obtain rfl := Option.some.inj hF
                        exact hJ44 _ (rfl)
                      · skip
                        refine JL.skip (.bool rfl rfl rfl hc45) rfl ?_
                        refine JL.pick_f (b := p38) rfl hc45 .none rfl ?_
                        obtain rfl := Option.some.inj hF
                        exact hJ44 _ (rfl)
                    · rintro f hf126
                      refine (JL.norm (i := 126) hf126 ?_)
                      refine JL.assign .none rfl ?_
                      refine JL.done hQ ?_
                      refine JQ.go ?_
                      refine JC.ret ?_
                      obtain rfl := Option.some.inj hF
                      exact JQ.outS rfl (.tmp .nil) rfl

-- 23 ferrule/ferrulelaw01.ready
def F_law01_ready (n : Nat) (f_ : Frame) : Option Bool :=
  (F_law01_Far n f_).bind fun y2 => (if (!y2) = true then ((F_ref01_Check n f_).bind fun y7 => some (y7 == 0)) else (some false) : Option Bool).bind fun p4 => some p4
set_option maxRecDepth 100000 in
set_option maxHeartbeats 40000000 in
theorem c_law01_ready (n : Nat) (H : Hp) (f_ : Frame) (f__v0 : Value) (hf__0 : SL H 7 R_Section f__v0 f_.Sections) (y : Bool) (hF : F_law01_ready n f_ = some y) : SC Try.prog 23 [.agg [f__v0, .int .i64 f_.Low, .int .i64 f_.High, .int .i64 f_.Ease.Num, .int .i64 f_.Ease.Den, .int .i64 f_.Rod, .int .i64 f_.Case].toArray] (.bool y) H := by
  rw [F_law01_ready] at hF
  refine SC.of (N := 11) Try.func23 rfl rfl rfl fun w => ?_
  refine JC.seq ?_
  refine JC.region (by rfl) ?_
  intro hQ
  refine JL.box (cs := [f__v0, .int .i64 f_.Low, .int .i64 f_.High, .int .i64 f_.Ease.Num, .int .i64 f_.Ease.Den, .int .i64 f_.Rod, .int .i64 f_.Case]) rfl .none rfl ?_
  intro b1
  refine JL.assign .none rfl ?_
  refine JL.done hQ ?_
  refine JQ.go ?_
  refine JC.seq ?_
  refine JC.region (by rfl) ?_
  intro hQ
  refine JL.loadOwn 0 az_26 rfl rfl rfl .none rfl ?_
  obtain ⟨y2, hy2, hF⟩ := bind_some hF
  refine JL.callS (c_law01_Far n H f_ f__v0 hf__0 y2 hy2) rfl en_11 .none rfl ?_
  refine JL.not rfl .none rfl ?_
  refine JL.move .none rfl ?_
  obtain ⟨p4, hp4, hF⟩ := bind_some hF
  refine JL.cut 4 (fun f => f 10 = .bool p4) ?_ ?_
  · intro hJ5
    rcases ite_some hp4 with ⟨hc6, hF⟩ | ⟨hc6, hF⟩
    · skip
      refine JL.loadOwn 0 az_26 rfl rfl rfl (.some rfl rfl rfl hc6) rfl ?_
      obtain ⟨y7, hy7, hF⟩ := bind_some hF
      refine JL.callS (c_ref01_Check n H f_ f__v0 hf__0 y7 hy7) rfl en_15 (.some rfl rfl rfl hc6) rfl ?_
      refine JL.bin rfl rfl rfl (.some rfl rfl rfl hc6) rfl ?_
      refine JL.pick_t (b := (!y2)) rfl hc6 .none rfl ?_
      obtain rfl := Option.some.inj hF
      exact hJ5 _ (rfl)
    · skip
      refine JL.skip (.bool rfl rfl rfl hc6) rfl ?_
      refine JL.skip (.bool rfl rfl rfl hc6) rfl ?_
      refine JL.skip (.bool rfl rfl rfl hc6) rfl ?_
      refine JL.pick_f (b := (!y2)) rfl hc6 .none rfl ?_
      obtain rfl := Option.some.inj hF
      exact hJ5 _ (rfl)
  · rintro f hf10
    refine (JL.norm (i := 10) hf10 ?_)
    refine JL.assign .none rfl ?_
    refine JL.done hQ ?_
    refine JQ.go ?_
    refine JC.ret ?_
    obtain rfl := Option.some.inj hF
    exact JQ.outS rfl (.tmp .nil) rfl

-- 24 ferrule/ferrulelaw01.isAsk
def F_law01_isAsk (n : Nat) (f_ : Frame) (x_ : law01_Ask) : Option Bool :=
  (F_ref01_IsSection n f_ x_.Section).bind fun y3 => (if y3 = true then ((F_ref01_IsPosition n f_ x_.R).bind fun y8 => some y8) else (some false) : Option Bool).bind fun p5 => some p5
set_option maxRecDepth 100000 in
set_option maxHeartbeats 40000000 in
theorem c_law01_isAsk (n : Nat) (H : Hp) (f_ : Frame) (f__v0 : Value) (hf__0 : SL H 7 R_Section f__v0 f_.Sections) (x_ : law01_Ask) (y : Bool) (hF : F_law01_isAsk n f_ x_ = some y) : SC Try.prog 24 [.agg [f__v0, .int .i64 f_.Low, .int .i64 f_.High, .int .i64 f_.Ease.Num, .int .i64 f_.Ease.Den, .int .i64 f_.Rod, .int .i64 f_.Case].toArray, .agg [.int .i64 x_.Section, .int .i64 x_.R].toArray] (.bool y) H := by
  rw [F_law01_isAsk] at hF
  refine SC.of (N := 15) Try.func24 rfl rfl rfl fun w => ?_
  refine JC.seq ?_
  refine JC.region (by rfl) ?_
  intro hQ
  refine JL.box (cs := [f__v0, .int .i64 f_.Low, .int .i64 f_.High, .int .i64 f_.Ease.Num, .int .i64 f_.Ease.Den, .int .i64 f_.Rod, .int .i64 f_.Case]) rfl .none rfl ?_
  intro b1
  refine JL.box (cs := [.int .i64 x_.Section, .int .i64 x_.R]) rfl .none rfl ?_
  intro b2
  refine JL.assign .none rfl ?_
  refine JL.done hQ ?_
  refine JQ.go ?_
  refine JC.seq ?_
  refine JC.region (by rfl) ?_
  intro hQ
  refine JL.loadOwn 1 az_26 rfl rfl rfl .none rfl ?_
  refine JL.fieldAddr fo_28_0 rfl .none rfl ?_
  refine JL.loadOwn 0 az_3 rfl rfl rfl .none rfl ?_
  obtain ⟨y3, hy3, hF⟩ := bind_some hF
  refine JL.callS (c_ref01_IsSection n H f_ f__v0 hf__0 x_.Section y3 hy3) rfl en_40 .none rfl ?_
  refine JL.move .none rfl ?_
  obtain ⟨p5, hp5, hF⟩ := bind_some hF
  refine JL.cut 5 (fun f => f 14 = .bool p5) ?_ ?_
  · intro hJ6
    rcases ite_some hp5 with ⟨hc7, hF⟩ | ⟨hc7, hF⟩
    · skip
      refine JL.loadOwn 1 az_26 rfl rfl rfl (.some rfl rfl rfl hc7) rfl ?_
      refine JL.fieldAddr fo_28_1 rfl (.some rfl rfl rfl hc7) rfl ?_
      refine JL.loadOwn 0 az_3 rfl rfl rfl (.some rfl rfl rfl hc7) rfl ?_
      obtain ⟨y8, hy8, hF⟩ := bind_some hF
      refine JL.callS (c_ref01_IsPosition n H f_ f__v0 hf__0 x_.R y8 hy8) rfl en_59 (.some rfl rfl rfl hc7) rfl ?_
      refine JL.pick_t (b := y3) rfl hc7 .none rfl ?_
      obtain rfl := Option.some.inj hF
      exact hJ6 _ (rfl)
    · skip
      refine JL.skip (.bool rfl rfl rfl hc7) rfl ?_
      refine JL.skip (.bool rfl rfl rfl hc7) rfl ?_
      refine JL.skip (.bool rfl rfl rfl hc7) rfl ?_
      refine JL.skip (.bool rfl rfl rfl hc7) rfl ?_
      refine JL.pick_f (b := y3) rfl hc7 .none rfl ?_
      obtain rfl := Option.some.inj hF
      exact hJ6 _ (rfl)
  · rintro f hf14
    refine (JL.norm (i := 14) hf14 ?_)
    refine JL.assign .none rfl ?_
    refine JL.done hQ ?_
    refine JQ.go ?_
    refine JC.ret ?_
    obtain rfl := Option.some.inj hF
    exact JQ.outS rfl (.tmp .nil) rfl

end Go.Proofs.Ytmgnhaibbeinbaa
