/-
  Printed by a program: functions of the translation as plain functions, and their contracts.
-/
import Derived.Test.YtmgnhaibbeinbaaGenK8
namespace Go.Proofs.Ytmgnhaibbeinbaa
open Go Go.RowKit Go.Dec
set_option linter.unusedVariables false
-- 5 ferrule/ferrulelaw01.FramesEase
def F_law01_FramesEase (n : Nat) (f_ : Frame) (more : Frac) (x_ : law01_Ask) : Option Bool :=
  (F_law01_ready n f_).bind fun y5 => (if (!y5) = true then (some true) else ((F_law01_ready n (Frame.mk f_.Sections f_.Low f_.High more f_.Rod f_.Case)).bind fun y10 => some (!y10)) : Option Bool).bind fun p7 => (if p7 = true then (some true) else ((F_law01_isAsk n f_ x_).bind fun y15 => some (!y15)) : Option Bool).bind fun p12 => (if p12 = true then (some true) else ((F_ref01_Less n more f_.Ease).bind fun y20 => some y20) : Option Bool).bind fun p17 => if p17 = true then ((F_law01_works n).bind fun y22 => some y22) else ((F_frames_Binds n f_ x_.Section x_.R).bind fun y23 => (F_frames_Binds n (Frame.mk f_.Sections f_.Low f_.High more f_.Rod f_.Case) x_.Section x_.R).bind fun y24 => (F_frames_Opens n f_).bind fun y25 => (F_frames_Opens n (Frame.mk f_.Sections f_.Low f_.High more f_.Rod f_.Case)).bind fun y26 => (F_frames_First n f_).bind fun y27 => (F_frames_First n (Frame.mk f_.Sections f_.Low f_.High more f_.Rod f_.Case)).bind fun y28 => if ((((((((y23.2 != 0) || (y24.2 != 0)) || (y25.2 != 0)) || (y26.2 != 0)) || ((y23.1 == 1) && (y24.1 != 1))) || ((y24.1 == 2) && (y23.1 != 2))) || ((y25.1 == 2) && (y26.1 != 2))) || ((y26.1 == 1) && (y25.1 != 1))) = true then (some false) else (if ((y27.2.2 == 0) && ((y28.2.2 != 0) || (decide (y28.2.1 < y27.2.1)))) = true then (some false) else ((if ((decide (more.Num < more.Den)) || ((((y24.1 == 1) && (y26.1 == 2)) && (y28.2.2 == 0)) && (y28.2.1 == f_.High))) = true then ((F_law01_works n).bind fun y85 => some y85) else (some false) : Option Bool).bind fun p82 => some p82)))
set_option maxRecDepth 100000 in
set_option maxHeartbeats 40000000 in
theorem c_law01_FramesEase (n : Nat) (H : Hp) (f_ : Frame) (f__v0 : Value) (hf__0 : SL H 7 R_Section f__v0 f_.Sections) (more : Frac) (x_ : law01_Ask) (y : Bool) (hF : F_law01_FramesEase n f_ more x_ = some y) : SC Try.prog 5 [.agg [f__v0, .int .i64 f_.Low, .int .i64 f_.High, .int .i64 f_.Ease.Num, .int .i64 f_.Ease.Den, .int .i64 f_.Rod, .int .i64 f_.Case].toArray, .agg [.int .i64 more.Num, .int .i64 more.Den].toArray, .agg [.int .i64 x_.Section, .int .i64 x_.R].toArray] (.bool y) H := by
  rw [F_law01_FramesEase] at hF
  refine SC.of (N := 169) Try.func5 rfl rfl rfl fun w => ?_
  refine JC.seq ?_
  refine JC.region (by rfl) ?_
  intro hQ
  refine JL.box (cs := [f__v0, .int .i64 f_.Low, .int .i64 f_.High, .int .i64 f_.Ease.Num, .int .i64 f_.Ease.Den, .int .i64 f_.Rod, .int .i64 f_.Case]) rfl .none rfl ?_
  intro b1
  refine JL.box (cs := [.int .i64 more.Num, .int .i64 more.Den]) rfl .none rfl ?_
  intro b2
  refine JL.box (cs := [.int .i64 x_.Section, .int .i64 x_.R]) rfl .none rfl ?_
  intro b3
  refine JL.assign .none rfl ?_
  refine JL.done hQ ?_
  refine JQ.go ?_
  refine JC.seq ?_
  refine JC.region (by rfl) ?_
  intro hQ
  refine JL.loadOwn 2 az_26 rfl rfl rfl .none rfl ?_
  refine JL.alloc ze_26 .none rfl ?_
  intro b4
  refine JL.storeOwn 0 (cs := [f__v0, .int .i64 f_.Low, .int .i64 f_.High, .int .i64 f_.Ease.Num, .int .i64 f_.Ease.Den, .int .i64 f_.Rod, .int .i64 f_.Case]) az_26 rfl rfl rfl (one_cons (SL.one hf__0) (one_cons rfl (one_cons rfl (one_cons rfl (one_cons rfl (one_cons rfl (one_cons rfl one_nil))))))) rfl rfl .none ?_
  refine JL.done hQ ?_
  refine JQ.go ?_
  refine JC.seq ?_
  refine JC.region (by rfl) ?_
  intro hQ
  refine JL.loadOwn 2 az_24 rfl rfl rfl .none rfl ?_
  refine JL.fieldAddr fo_26_3 rfl .none rfl ?_
  refine JL.storeOwn 0 (cs := [.int .i64 more.Num, .int .i64 more.Den]) az_24 rfl rfl rfl (one_cons rfl (one_cons rfl one_nil)) rfl rfl .none ?_
  refine JL.done hQ ?_
  refine JQ.go ?_
  refine JC.seq ?_
  refine JC.seq ?_
  refine JC.region (by rfl) ?_
  intro hQ
  refine JL.loadOwn 3 az_26 rfl rfl rfl .none rfl ?_
  obtain ⟨y5, hy5, hF⟩ := bind_some hF
  refine JL.callS (c_law01_ready n H f_ f__v0 hf__0 y5 hy5) rfl en_23 .none rfl ?_
  refine JL.not rfl .none rfl ?_
  refine JL.move .none rfl ?_
  obtain ⟨p7, hp7, hF⟩ := bind_some hF
  refine JL.cut 4 (fun f => f 3 = .pointer (some ⟨b1, 0, none⟩) ∧ f 4 = .pointer (some ⟨b2, 0, none⟩) ∧ f 5 = .pointer (some ⟨b3, 0, none⟩) ∧ f 7 = .pointer (some ⟨b4, 0, none⟩) ∧ f 32 = .bool p7) ?_ ?_
  · intro hJ8
    rcases ite_some hp7 with ⟨hc9, hF⟩ | ⟨hc9, hF⟩
    · skip
      refine JL.skip (.bool rfl rfl rfl hc9) rfl ?_
      refine JL.skip (.bool rfl rfl rfl hc9) rfl ?_
      refine JL.skip (.bool rfl rfl rfl hc9) rfl ?_
      refine JL.pick_t (b := (!y5)) rfl hc9 .none rfl ?_
      obtain rfl := Option.some.inj hF
      exact hJ8 _ ⟨rfl, rfl, rfl, rfl, rfl⟩
    · skip
      refine JL.loadOwn 0 az_26 rfl rfl rfl (.some rfl rfl rfl hc9) rfl ?_
      obtain ⟨y10, hy10, hF⟩ := bind_some hF
      refine JL.callS (c_law01_ready n H (Frame.mk f_.Sections f_.Low f_.High more f_.Rod f_.Case) f__v0 hf__0 y10 hy10) rfl en_23 (.some rfl rfl rfl hc9) rfl ?_
      refine JL.not rfl (.some rfl rfl rfl hc9) rfl ?_
      refine JL.pick_f (b := (!y5)) rfl hc9 .none rfl ?_
      obtain rfl := Option.some.inj hF
      exact hJ8 _ ⟨rfl, rfl, rfl, rfl, rfl⟩
  · rintro f ⟨hf3, hf4, hf5, hf7, hf32⟩
    refine (JL.norm (i := 3) hf3 (JL.norm (i := 4) hf4 (JL.norm (i := 5) hf5 (JL.norm (i := 7) hf7 (JL.norm (i := 32) hf32 ?_)))))
    refine JL.move .none rfl ?_
    obtain ⟨p12, hp12, hF⟩ := bind_some hF
    refine JL.cut 5 (fun f => f 3 = .pointer (some ⟨b1, 0, none⟩) ∧ f 4 = .pointer (some ⟨b2, 0, none⟩) ∧ f 5 = .pointer (some ⟨b3, 0, none⟩) ∧ f 7 = .pointer (some ⟨b4, 0, none⟩) ∧ f 38 = .bool p12) ?_ ?_
    · intro hJ13
      rcases ite_some hp12 with ⟨hc14, hF⟩ | ⟨hc14, hF⟩
      · skip
        refine JL.skip (.bool rfl rfl rfl hc14) rfl ?_
        refine JL.skip (.bool rfl rfl rfl hc14) rfl ?_
        refine JL.skip (.bool rfl rfl rfl hc14) rfl ?_
        refine JL.skip (.bool rfl rfl rfl hc14) rfl ?_
        refine JL.pick_t (b := p7) rfl hc14 .none rfl ?_
        obtain rfl := Option.some.inj hF
        exact hJ13 _ ⟨rfl, rfl, rfl, rfl, rfl⟩
      · skip
        refine JL.loadOwn 3 az_26 rfl rfl rfl (.some rfl rfl rfl hc14) rfl ?_
        refine JL.loadOwn 1 az_28 rfl rfl rfl (.some rfl rfl rfl hc14) rfl ?_
        obtain ⟨y15, hy15, hF⟩ := bind_some hF
        refine JL.callS (c_law01_isAsk n H f_ f__v0 hf__0 x_ y15 hy15) rfl en_24 (.some rfl rfl rfl hc14) rfl ?_
        refine JL.not rfl (.some rfl rfl rfl hc14) rfl ?_
        refine JL.pick_f (b := p7) rfl hc14 .none rfl ?_
        obtain rfl := Option.some.inj hF
        exact hJ13 _ ⟨rfl, rfl, rfl, rfl, rfl⟩
    · rintro f ⟨hf3, hf4, hf5, hf7, hf38⟩
      refine (JL.norm (i := 3) hf3 (JL.norm (i := 4) hf4 (JL.norm (i := 5) hf5 (JL.norm (i := 7) hf7 (JL.norm (i := 38) hf38 ?_)))))
      refine JL.move .none rfl ?_
      obtain ⟨p17, hp17, hF⟩ := bind_some hF
      refine JL.cut 5 (fun f => f 3 = .pointer (some ⟨b1, 0, none⟩) ∧ f 4 = .pointer (some ⟨b2, 0, none⟩) ∧ f 5 = .pointer (some ⟨b3, 0, none⟩) ∧ f 7 = .pointer (some ⟨b4, 0, none⟩) ∧ f 44 = .bool p17) ?_ ?_
      · intro hJ18
        rcases ite_some hp17 with ⟨hc19, hF⟩ | ⟨hc19, hF⟩
        · skip
          refine JL.skip (.bool rfl rfl rfl hc19) rfl ?_
          refine JL.skip (.bool rfl rfl rfl hc19) rfl ?_
          refine JL.skip (.bool rfl rfl rfl hc19) rfl ?_
          refine JL.skip (.bool rfl rfl rfl hc19) rfl ?_
          refine JL.pick_t (b := p12) rfl hc19 .none rfl ?_
          obtain rfl := Option.some.inj hF
          exact hJ18 _ ⟨rfl, rfl, rfl, rfl, rfl⟩
        · skip
          refine JL.loadOwn 2 az_24 rfl rfl rfl (.some rfl rfl rfl hc19) rfl ?_
          refine JL.fieldAddr fo_26_3 rfl (.some rfl rfl rfl hc19) rfl ?_
          refine JL.loadOwn 3 az_24 rfl rfl rfl (.some rfl rfl rfl hc19) rfl ?_
          obtain ⟨y20, hy20, hF⟩ := bind_some hF
          refine JL.callS (c_ref01_Less n H more f_.Ease y20 hy20) rfl en_29 (.some rfl rfl rfl hc19) rfl ?_
          refine JL.pick_f (b := p12) rfl hc19 .none rfl ?_
          obtain rfl := Option.some.inj hF
          exact hJ18 _ ⟨rfl, rfl, rfl, rfl, rfl⟩
      · rintro f ⟨hf3, hf4, hf5, hf7, hf44⟩
        refine (JL.norm (i := 3) hf3 (JL.norm (i := 4) hf4 (JL.norm (i := 5) hf5 (JL.norm (i := 7) hf7 (JL.norm (i := 44) hf44 ?_)))))
        refine JL.done hQ ?_
        refine JQ.go ?_
        rcases ite_some hF with ⟨hc21, hF⟩ | ⟨hc21, hF⟩
        · refine JC.cond_t (b := p17) rfl hc21 ?_
          refine JC.seq ?_
          refine JC.region (by rfl) ?_
          intro hQ
          obtain ⟨y22, hy22, hF⟩ := bind_some hF
          refine JL.callS (c_law01_works n H y22 hy22) rfl en_12 .none rfl ?_
          refine JL.assign .none rfl ?_
          refine JL.done hQ ?_
          refine JQ.go ?_
          refine JC.ret ?_
          refine JQ.ret_then ?_
          obtain rfl := Option.some.inj hF
          exact JQ.outS rfl (.tmp .nil) rfl
        · refine JC.cond_f (b := p17) rfl hc21 ?_
          refine JC.skip ?_
          refine JQ.go ?_
          refine JC.seq ?_
          refine JC.region (by rfl) ?_
          intro hQ
          refine JL.loadOwn 3 az_26 rfl rfl rfl .none rfl ?_
          refine JL.fieldAddr fo_28_0 rfl .none rfl ?_
          refine JL.loadOwn 1 az_3 rfl rfl rfl .none rfl ?_
          refine JL.fieldAddr fo_28_1 rfl .none rfl ?_
          refine JL.loadOwn 1 az_3 rfl rfl rfl .none rfl ?_
          obtain ⟨y23, hy23, hF⟩ := bind_some hF
          refine JL.callS (c_frames_Binds n H f_ f__v0 hf__0 x_.Section x_.R y23 hy23) rfl en_20 .none rfl ?_
          refine JL.move .none rfl ?_
          refine JL.extract rfl rfl .none rfl ?_
          refine JL.extract rfl rfl .none rfl ?_
          refine JL.assign .none rfl ?_
          refine JL.assign .none rfl ?_
          refine JL.done hQ ?_
          refine JQ.go ?_
          refine JC.fresh (fun f => f 3 = .pointer (some ⟨b1, 0, none⟩) ∧ f 4 = .pointer (some ⟨b2, 0, none⟩) ∧ f 5 = .pointer (some ⟨b3, 0, none⟩) ∧ f 7 = .pointer (some ⟨b4, 0, none⟩) ∧ f 8 = .int .i64 y23.1 ∧ f 9 = .int .i64 y23.2) ⟨rfl, rfl, rfl, rfl, rfl, rfl⟩ ?_
          rintro f ⟨hf3, hf4, hf5, hf7, hf8, hf9⟩
          refine (JC.norm (i := 3) hf3 (JC.norm (i := 4) hf4 (JC.norm (i := 5) hf5 (JC.norm (i := 7) hf7 (JC.norm (i := 8) hf8 (JC.norm (i := 9) hf9 ?_))))))
          refine JC.seq ?_
          refine JC.region (by rfl) ?_
          intro hQ
          refine JL.loadOwn 0 az_26 rfl rfl rfl .none rfl ?_
          refine JL.fieldAddr fo_28_0 rfl .none rfl ?_
          refine JL.loadOwn 1 az_3 rfl rfl rfl .none rfl ?_
          refine JL.fieldAddr fo_28_1 rfl .none rfl ?_
          refine JL.loadOwn 1 az_3 rfl rfl rfl .none rfl ?_
          obtain ⟨y24, hy24, hF⟩ := bind_some hF
          refine JL.callS (c_frames_Binds n H (Frame.mk f_.Sections f_.Low f_.High more f_.Rod f_.Case) f__v0 hf__0 x_.Section x_.R y24 hy24) rfl en_20 .none rfl ?_
          refine JL.move .none rfl ?_
          refine JL.extract rfl rfl .none rfl ?_
          refine JL.extract rfl rfl .none rfl ?_
          refine JL.assign .none rfl ?_
          refine JL.assign .none rfl ?_
          refine JL.done hQ ?_
          refine JQ.go ?_
          refine JC.fresh (fun f => f 3 = .pointer (some ⟨b1, 0, none⟩) ∧ f 4 = .pointer (some ⟨b2, 0, none⟩) ∧ f 7 = .pointer (some ⟨b4, 0, none⟩) ∧ f 8 = .int .i64 y23.1 ∧ f 9 = .int .i64 y23.2 ∧ f 10 = .int .i64 y24.1 ∧ f 11 = .int .i64 y24.2) ⟨rfl, rfl, rfl, rfl, rfl, rfl, rfl⟩ ?_
          rintro f ⟨hf3, hf4, hf7, hf8, hf9, hf10, hf11⟩
          refine (JC.norm (i := 3) hf3 (JC.norm (i := 4) hf4 (JC.norm (i := 7) hf7 (JC.norm (i := 8) hf8 (JC.norm (i := 9) hf9 (JC.norm (i := 10) hf10 (JC.norm (i := 11) hf11 ?_)))))))
          refine JC.seq ?_
          refine JC.region (by rfl) ?_
          intro hQ
          refine JL.loadOwn 3 az_26 rfl rfl rfl .none rfl ?_
          obtain ⟨y25, hy25, hF⟩ := bind_some hF
          refine JL.callS (c_frames_Opens n H f_ f__v0 hf__0 y25 hy25) rfl en_30 .none rfl ?_
          refine JL.move .none rfl ?_
          refine JL.extract rfl rfl .none rfl ?_
          refine JL.extract rfl rfl .none rfl ?_
          refine JL.assign .none rfl ?_
          refine JL.assign .none rfl ?_
          refine JL.done hQ ?_
          refine JQ.go ?_
          refine JC.seq ?_
          refine JC.region (by rfl) ?_
          intro hQ
          refine JL.loadOwn 0 az_26 rfl rfl rfl .none rfl ?_
          obtain ⟨y26, hy26, hF⟩ := bind_some hF
          refine JL.callS (c_frames_Opens n H (Frame.mk f_.Sections f_.Low f_.High more f_.Rod f_.Case) f__v0 hf__0 y26 hy26) rfl en_30 .none rfl ?_
          refine JL.move .none rfl ?_
          refine JL.extract rfl rfl .none rfl ?_
          refine JL.extract rfl rfl .none rfl ?_
          refine JL.assign .none rfl ?_
          refine JL.assign .none rfl ?_
          refine JL.done hQ ?_
          refine JQ.go ?_
          refine JC.fresh (fun f => f 3 = .pointer (some ⟨b1, 0, none⟩) ∧ f 4 = .pointer (some ⟨b2, 0, none⟩) ∧ f 7 = .pointer (some ⟨b4, 0, none⟩) ∧ f 8 = .int .i64 y23.1 ∧ f 9 = .int .i64 y23.2 ∧ f 10 = .int .i64 y24.1 ∧ f 11 = .int .i64 y24.2 ∧ f 12 = .int .i64 y25.1 ∧ f 13 = .int .i64 y25.2 ∧ f 14 = .int .i64 y26.1 ∧ f 15 = .int .i64 y26.2) ⟨rfl, rfl, rfl, rfl, rfl, rfl, rfl, rfl, rfl, rfl, rfl⟩ ?_
          rintro f ⟨hf3, hf4, hf7, hf8, hf9, hf10, hf11, hf12, hf13, hf14, hf15⟩
          refine (JC.norm (i := 3) hf3 (JC.norm (i := 4) hf4 (JC.norm (i := 7) hf7 (JC.norm (i := 8) hf8 (JC.norm (i := 9) hf9 (JC.norm (i := 10) hf10 (JC.norm (i := 11) hf11 (JC.norm (i := 12) hf12 (JC.norm (i := 13) hf13 (JC.norm (i := 14) hf14 (JC.norm (i := 15) hf15 ?_)))))))))))
          refine JC.seq ?_
          refine JC.region (by rfl) ?_
          intro hQ
          refine JL.loadOwn 3 az_26 rfl rfl rfl .none rfl ?_
          obtain ⟨y27, hy27, hF⟩ := bind_some hF
          refine JL.callS (c_frames_First n H f_ f__v0 hf__0 y27 hy27) rfl en_28 .none rfl ?_
          refine JL.move .none rfl ?_
          refine JL.extract rfl rfl .none rfl ?_
          refine JL.extract rfl rfl .none rfl ?_
          refine JL.extract rfl rfl .none rfl ?_
          refine JL.assign .none rfl ?_
          refine JL.assign .none rfl ?_
          refine JL.assign .none rfl ?_
          refine JL.done hQ ?_
          refine JQ.go ?_
          refine JC.fresh (fun f => f 4 = .pointer (some ⟨b2, 0, none⟩) ∧ f 7 = .pointer (some ⟨b4, 0, none⟩) ∧ f 8 = .int .i64 y23.1 ∧ f 9 = .int .i64 y23.2 ∧ f 10 = .int .i64 y24.1 ∧ f 11 = .int .i64 y24.2 ∧ f 12 = .int .i64 y25.1 ∧ f 13 = .int .i64 y25.2 ∧ f 14 = .int .i64 y26.1 ∧ f 15 = .int .i64 y26.2 ∧ f 17 = .int .i64 y27.2.1 ∧ f 18 = .int .i64 y27.2.2) ⟨rfl, rfl, rfl, rfl, rfl, rfl, rfl, rfl, rfl, rfl, rfl, rfl⟩ ?_
          rintro f ⟨hf4, hf7, hf8, hf9, hf10, hf11, hf12, hf13, hf14, hf15, hf17, hf18⟩
          refine (JC.norm (i := 4) hf4 (JC.norm (i := 7) hf7 (JC.norm (i := 8) hf8 (JC.norm (i := 9) hf9 (JC.norm (i := 10) hf10 (JC.norm (i := 11) hf11 (JC.norm (i := 12) hf12 (JC.norm (i := 13) hf13 (JC.norm (i := 14) hf14 (JC.norm (i := 15) hf15 (JC.norm (i := 17) hf17 (JC.norm (i := 18) hf18 ?_))))))))))))
          refine JC.seq ?_
          refine JC.region (by rfl) ?_
          intro hQ
          refine JL.loadOwn 0 az_26 rfl rfl rfl .none rfl ?_
          obtain ⟨y28, hy28, hF⟩ := bind_some hF
          refine JL.callS (c_frames_First n H (Frame.mk f_.Sections f_.Low f_.High more f_.Rod f_.Case) f__v0 hf__0 y28 hy28) rfl en_28 .none rfl ?_
          refine JL.move .none rfl ?_
          refine JL.extract rfl rfl .none rfl ?_
          refine JL.extract rfl rfl .none rfl ?_
          refine JL.extract rfl rfl .none rfl ?_
          refine JL.assign .none rfl ?_
          refine JL.assign .none rfl ?_
          refine JL.assign .none rfl ?_
          refine JL.done hQ ?_
          refine JQ.go ?_
          refine JC.seq ?_
          refine JC.seq ?_
          refine JC.region (by rfl) ?_
          intro hQ
          refine JL.move .none rfl ?_
          refine JL.bin rfl rfl rfl .none rfl ?_
          refine JL.move .none rfl ?_
          refine JL.cut 3 (fun f => f 4 = .pointer (some ⟨b2, 0, none⟩) ∧ f 7 = .pointer (some ⟨b4, 0, none⟩) ∧ f 8 = .int .i64 y23.1 ∧ f 10 = .int .i64 y24.1 ∧ f 12 = .int .i64 y25.1 ∧ f 13 = .int .i64 y25.2 ∧ f 14 = .int .i64 y26.1 ∧ f 15 = .int .i64 y26.2 ∧ f 17 = .int .i64 y27.2.1 ∧ f 18 = .int .i64 y27.2.2 ∧ f 20 = .int .i64 y28.2.1 ∧ f 21 = .int .i64 y28.2.2 ∧ f 91 = .bool ((y23.2 != 0) || (y24.2 != 0))) ?_ ?_
          · intro hJ29
            rcases bcases (y23.2 != 0) with hc30 | hc30
            · skip
              refine JL.skip (.bool rfl rfl rfl hc30) rfl ?_
              refine JL.skip (.bool rfl rfl rfl hc30) rfl ?_
              refine JL.pick_t (b := (y23.2 != 0)) rfl hc30 .none rfl ?_
              exact hJ29 _ ⟨rfl, rfl, rfl, rfl, rfl, rfl, rfl, rfl, rfl, rfl, rfl, rfl, or_t hc30 rfl⟩
            · skip
              refine JL.move (.some rfl rfl rfl hc30) rfl ?_
              refine JL.bin rfl rfl rfl (.some rfl rfl rfl hc30) rfl ?_
              refine JL.pick_f (b := (y23.2 != 0)) rfl hc30 .none rfl ?_
              exact hJ29 _ ⟨rfl, rfl, rfl, rfl, rfl, rfl, rfl, rfl, rfl, rfl, rfl, rfl, or_f hc30 rfl⟩
          · rintro f ⟨hf4, hf7, hf8, hf10, hf12, hf13, hf14, hf15, hf17, hf18, hf20, hf21, hf91⟩
            refine (JL.norm (i := 4) hf4 (JL.norm (i := 7) hf7 (JL.norm (i := 8) hf8 (JL.norm (i := 10) hf10 (JL.norm (i := 12) hf12 (JL.norm (i := 13) hf13 (JL.norm (i := 14) hf14 (JL.norm (i := 15) hf15 (JL.norm (i := 17) hf17 (JL.norm (i := 18) hf18 (JL.norm (i := 20) hf20 (JL.norm (i := 21) hf21 (JL.norm (i := 91) hf91 ?_)))))))))))))
            refine JL.move .none rfl ?_
            refine JL.cut 3 (fun f => f 4 = .pointer (some ⟨b2, 0, none⟩) ∧ f 7 = .pointer (some ⟨b4, 0, none⟩) ∧ f 8 = .int .i64 y23.1 ∧ f 10 = .int .i64 y24.1 ∧ f 12 = .int .i64 y25.1 ∧ f 14 = .int .i64 y26.1 ∧ f 15 = .int .i64 y26.2 ∧ f 17 = .int .i64 y27.2.1 ∧ f 18 = .int .i64 y27.2.2 ∧ f 20 = .int .i64 y28.2.1 ∧ f 21 = .int .i64 y28.2.2 ∧ f 95 = .bool (((y23.2 != 0) || (y24.2 != 0)) || (y25.2 != 0))) ?_ ?_
            · intro hJ31
              rcases bcases ((y23.2 != 0) || (y24.2 != 0)) with hc32 | hc32
              · skip
                refine JL.skip (.bool rfl rfl rfl hc32) rfl ?_
                refine JL.skip (.bool rfl rfl rfl hc32) rfl ?_
                refine JL.pick_t (b := ((y23.2 != 0) || (y24.2 != 0))) rfl hc32 .none rfl ?_
                exact hJ31 _ ⟨rfl, rfl, rfl, rfl, rfl, rfl, rfl, rfl, rfl, rfl, rfl, or_t hc32 rfl⟩
              · skip
                refine JL.move (.some rfl rfl rfl hc32) rfl ?_
                refine JL.bin rfl rfl rfl (.some rfl rfl rfl hc32) rfl ?_
                refine JL.pick_f (b := ((y23.2 != 0) || (y24.2 != 0))) rfl hc32 .none rfl ?_
                exact hJ31 _ ⟨rfl, rfl, rfl, rfl, rfl, rfl, rfl, rfl, rfl, rfl, rfl, or_f hc32 rfl⟩
            · rintro f ⟨hf4, hf7, hf8, hf10, hf12, hf14, hf15, hf17, hf18, hf20, hf21, hf95⟩
              refine (JL.norm (i := 4) hf4 (JL.norm (i := 7) hf7 (JL.norm (i := 8) hf8 (JL.norm (i := 10) hf10 (JL.norm (i := 12) hf12 (JL.norm (i := 14) hf14 (JL.norm (i := 15) hf15 (JL.norm (i := 17) hf17 (JL.norm (i := 18) hf18 (JL.norm (i := 20) hf20 (JL.norm (i := 21) hf21 (JL.norm (i := 95) hf95 ?_))))))))))))
              refine JL.move .none rfl ?_
              refine JL.cut 3 (fun f => f 4 = .pointer (some ⟨b2, 0, none⟩) ∧ f 7 = .pointer (some ⟨b4, 0, none⟩) ∧ f 8 = .int .i64 y23.1 ∧ f 10 = .int .i64 y24.1 ∧ f 12 = .int .i64 y25.1 ∧ f 14 = .int .i64 y26.1 ∧ f 17 = .int .i64 y27.2.1 ∧ f 18 = .int .i64 y27.2.2 ∧ f 20 = .int .i64 y28.2.1 ∧ f 21 = .int .i64 y28.2.2 ∧ f 99 = .bool ((((y23.2 != 0) || (y24.2 != 0)) || (y25.2 != 0)) || (y26.2 != 0))) ?_ ?_
              · intro hJ33
                rcases bcases (((y23.2 != 0) || (y24.2 != 0)) || (y25.2 != 0)) with hc34 | hc34
                · skip
                  refine JL.skip (.bool rfl rfl rfl hc34) rfl ?_
                  refine JL.skip (.bool rfl rfl rfl hc34) rfl ?_
                  refine JL.pick_t (b := (((y23.2 != 0) || (y24.2 != 0)) || (y25.2 != 0))) rfl hc34 .none rfl ?_
                  exact hJ33 _ ⟨rfl, rfl, rfl, rfl, rfl, rfl, rfl, rfl, rfl, rfl, or_t hc34 rfl⟩
                · skip
                  refine JL.move (.some rfl rfl rfl hc34) rfl ?_
                  refine JL.bin rfl rfl rfl (.some rfl rfl rfl hc34) rfl ?_
                  refine JL.pick_f (b := (((y23.2 != 0) || (y24.2 != 0)) || (y25.2 != 0))) rfl hc34 .none rfl ?_
                  exact hJ33 _ ⟨rfl, rfl, rfl, rfl, rfl, rfl, rfl, rfl, rfl, rfl, or_f hc34 rfl⟩
              · rintro f ⟨hf4, hf7, hf8, hf10, hf12, hf14, hf17, hf18, hf20, hf21, hf99⟩
                refine (JL.norm (i := 4) hf4 (JL.norm (i := 7) hf7 (JL.norm (i := 8) hf8 (JL.norm (i := 10) hf10 (JL.norm (i := 12) hf12 (JL.norm (i := 14) hf14 (JL.norm (i := 17) hf17 (JL.norm (i := 18) hf18 (JL.norm (i := 20) hf20 (JL.norm (i := 21) hf21 (JL.norm (i := 99) hf99 ?_)))))))))))
                refine JL.move .none rfl ?_
                refine JL.cut 7 (fun f => f 4 = .pointer (some ⟨b2, 0, none⟩) ∧ f 7 = .pointer (some ⟨b4, 0, none⟩) ∧ f 8 = .int .i64 y23.1 ∧ f 10 = .int .i64 y24.1 ∧ f 12 = .int .i64 y25.1 ∧ f 14 = .int .i64 y26.1 ∧ f 17 = .int .i64 y27.2.1 ∧ f 18 = .int .i64 y27.2.2 ∧ f 20 = .int .i64 y28.2.1 ∧ f 21 = .int .i64 y28.2.2 ∧ f 107 = .bool (((((y23.2 != 0) || (y24.2 != 0)) || (y25.2 != 0)) || (y26.2 != 0)) || ((y23.1 == 1) && (y24.1 != 1)))) ?_ ?_
                · intro hJ37
                  rcases bcases ((((y23.2 != 0) || (y24.2 != 0)) || (y25.2 != 0)) || (y26.2 != 0)) with hc38 | hc38
                  · skip
                    refine JL.skip (.bool rfl rfl rfl hc38) rfl ?_
                    refine JL.skip (.bool rfl rfl rfl hc38) rfl ?_
                    refine JL.skip (.bool rfl rfl rfl hc38) rfl ?_
                    refine JL.skip (.no rfl rfl rfl) rfl ?_
                    refine JL.skip (.no rfl rfl rfl) rfl ?_
                    refine JL.skip (.bool rfl rfl rfl hc38) rfl ?_
                    refine JL.pick_t (b := ((((y23.2 != 0) || (y24.2 != 0)) || (y25.2 != 0)) || (y26.2 != 0))) rfl hc38 .none rfl ?_
                    exact hJ37 _ ⟨rfl, rfl, rfl, rfl, rfl, rfl, rfl, rfl, rfl, rfl, or_t hc38 rfl⟩
                  · skip
                    refine JL.move (.some rfl rfl rfl hc38) rfl ?_
                    refine JL.bin rfl rfl rfl (.some rfl rfl rfl hc38) rfl ?_
                    refine JL.move (.some rfl rfl rfl hc38) rfl ?_
                    refine JL.cut 3 (fun f => f 4 = .pointer (some ⟨b2, 0, none⟩) ∧ f 7 = .pointer (some ⟨b4, 0, none⟩) ∧ f 8 = .int .i64 y23.1 ∧ f 10 = .int .i64 y24.1 ∧ f 12 = .int .i64 y25.1 ∧ f 14 = .int .i64 y26.1 ∧ f 17 = .int .i64 y27.2.1 ∧ f 18 = .int .i64 y27.2.2 ∧ f 20 = .int .i64 y28.2.1 ∧ f 21 = .int .i64 y28.2.2 ∧ f 100 = .bool ((((y23.2 != 0) || (y24.2 != 0)) || (y25.2 != 0)) || (y26.2 != 0)) ∧ f 106 = .bool ((y23.1 == 1) && (y24.1 != 1))) ?_ ?_
                    · intro hJ39
                      rcases bcases (y23.1 == 1) with hc40 | hc40
                      · skip
                        refine JL.move (.some rfl rfl rfl hc40) rfl ?_
                        refine JL.bin rfl rfl rfl (.some rfl rfl rfl hc40) rfl ?_
                        refine JL.pick_t (b := (y23.1 == 1)) rfl hc40 (.some rfl rfl rfl hc38) rfl ?_
                        exact hJ39 _ ⟨rfl, rfl, rfl, rfl, rfl, rfl, rfl, rfl, rfl, rfl, rfl, and_t hc40 rfl⟩
                      · skip
                        refine JL.skip (.bool rfl rfl rfl hc40) rfl ?_
                        refine JL.skip (.bool rfl rfl rfl hc40) rfl ?_
                        refine JL.pick_f (b := (y23.1 == 1)) rfl hc40 (.some rfl rfl rfl hc38) rfl ?_
                        exact hJ39 _ ⟨rfl, rfl, rfl, rfl, rfl, rfl, rfl, rfl, rfl, rfl, rfl, and_f hc40 rfl⟩
                    · rintro f ⟨hf4, hf7, hf8, hf10, hf12, hf14, hf17, hf18, hf20, hf21, hf100, hf106⟩
                      refine (JL.norm (i := 4) hf4 (JL.norm (i := 7) hf7 (JL.norm (i := 8) hf8 (JL.norm (i := 10) hf10 (JL.norm (i := 12) hf12 (JL.norm (i := 14) hf14 (JL.norm (i := 17) hf17 (JL.norm (i := 18) hf18 (JL.norm (i := 20) hf20 (JL.norm (i := 21) hf21 (JL.norm (i := 100) hf100 (JL.norm (i := 106) hf106 ?_))))))))))))
                      refine JL.pick_f (b := ((((y23.2 != 0) || (y24.2 != 0)) || (y25.2 != 0)) || (y26.2 != 0))) rfl hc38 .none rfl ?_
                      exact hJ37 _ ⟨rfl, rfl, rfl, rfl, rfl, rfl, rfl, rfl, rfl, rfl, or_f hc38 rfl⟩
                · rintro f ⟨hf4, hf7, hf8, hf10, hf12, hf14, hf17, hf18, hf20, hf21, hf107⟩
                  refine (JL.norm (i := 4) hf4 (JL.norm (i := 7) hf7 (JL.norm (i := 8) hf8 (JL.norm (i := 10) hf10 (JL.norm (i := 12) hf12 (JL.norm (i := 14) hf14 (JL.norm (i := 17) hf17 (JL.norm (i := 18) hf18 (JL.norm (i := 20) hf20 (JL.norm (i := 21) hf21 (JL.norm (i := 107) hf107 ?_)))))))))))
                  refine JL.move .none rfl ?_
                  refine JL.cut 7 (fun f => f 4 = .pointer (some ⟨b2, 0, none⟩) ∧ f 7 = .pointer (some ⟨b4, 0, none⟩) ∧ f 10 = .int .i64 y24.1 ∧ f 12 = .int .i64 y25.1 ∧ f 14 = .int .i64 y26.1 ∧ f 17 = .int .i64 y27.2.1 ∧ f 18 = .int .i64 y27.2.2 ∧ f 20 = .int .i64 y28.2.1 ∧ f 21 = .int .i64 y28.2.2 ∧ f 115 = .bool ((((((y23.2 != 0) || (y24.2 != 0)) || (y25.2 != 0)) || (y26.2 != 0)) || ((y23.1 == 1) && (y24.1 != 1))) || ((y24.1 == 2) && (y23.1 != 2)))) ?_ ?_
                  · intro hJ43
                    rcases bcases (((((y23.2 != 0) || (y24.2 != 0)) || (y25.2 != 0)) || (y26.2 != 0)) || ((y23.1 == 1) && (y24.1 != 1))) with hc44 | hc44
                    · skip
                      refine JL.skip (.bool rfl rfl rfl hc44) rfl ?_
                      refine JL.skip (.bool rfl rfl rfl hc44) rfl ?_
                      refine JL.skip (.bool rfl rfl rfl hc44) rfl ?_
                      refine JL.skip (.no rfl rfl rfl) rfl ?_
                      refine JL.skip (.no rfl rfl rfl) rfl ?_
                      refine JL.skip (.bool rfl rfl rfl hc44) rfl ?_
                      refine JL.pick_t (b := (((((y23.2 != 0) || (y24.2 != 0)) || (y25.2 != 0)) || (y26.2 != 0)) || ((y23.1 == 1) && (y24.1 != 1)))) rfl hc44 .none rfl ?_
                      exact hJ43 _ ⟨rfl, rfl, rfl, rfl, rfl, rfl, rfl, rfl, rfl, or_t hc44 rfl⟩
                    · skip
                      refine JL.move (.some rfl rfl rfl hc44) rfl ?_
                      refine JL.bin rfl rfl rfl (.some rfl rfl rfl hc44) rfl ?_
                      refine JL.move (.some rfl rfl rfl hc44) rfl ?_
                      refine JL.cut 3 (fun f => f 4 = .pointer (some ⟨b2, 0, none⟩) ∧ f 7 = .pointer (some ⟨b4, 0, none⟩) ∧ f 10 = .int .i64 y24.1 ∧ f 12 = .int .i64 y25.1 ∧ f 14 = .int .i64 y26.1 ∧ f 17 = .int .i64 y27.2.1 ∧ f 18 = .int .i64 y27.2.2 ∧ f 20 = .int .i64 y28.2.1 ∧ f 21 = .int .i64 y28.2.2 ∧ f 108 = .bool (((((y23.2 != 0) || (y24.2 != 0)) || (y25.2 != 0)) || (y26.2 != 0)) || ((y23.1 == 1) && (y24.1 != 1))) ∧ f 114 = .bool ((y24.1 == 2) && (y23.1 != 2))) ?_ ?_
                      · intro hJ45
                        rcases bcases (y24.1 == 2) with hc46 | hc46
                        · skip
                          refine JL.move (.some rfl rfl rfl hc46) rfl ?_
                          refine JL.bin rfl rfl rfl (.some rfl rfl rfl hc46) rfl ?_
                          refine JL.pick_t (b := (y24.1 == 2)) rfl hc46 (.some rfl rfl rfl hc44) rfl ?_
                          exact hJ45 _ ⟨rfl, rfl, rfl, rfl, rfl, rfl, rfl, rfl, rfl, rfl, and_t hc46 rfl⟩
                        · skip
                          refine JL.skip (.bool rfl rfl rfl hc46) rfl ?_
                          refine JL.skip (.bool rfl rfl rfl hc46) rfl ?_
                          refine JL.pick_f (b := (y24.1 == 2)) rfl hc46 (.some rfl rfl rfl hc44) rfl ?_
                          exact hJ45 _ ⟨rfl, rfl, rfl, rfl, rfl, rfl, rfl, rfl, rfl, rfl, and_f hc46 rfl⟩
                      · rintro f ⟨hf4, hf7, hf10, hf12, hf14, hf17, hf18, hf20, hf21, hf108, hf114⟩
                        refine (JL.norm (i := 4) hf4 (JL.norm (i := 7) hf7 (JL.norm (i := 10) hf10 (JL.norm (i := 12) hf12 (JL.norm (i := 14) hf14 (JL.norm (i := 17) hf17 (JL.norm (i := 18) hf18 (JL.norm (i := 20) hf20 (JL.norm (i := 21) hf21 (JL.norm (i := 108) hf108 (JL.norm (i := 114) hf114 ?_)))))))))))
                        refine JL.pick_f (b := (((((y23.2 != 0) || (y24.2 != 0)) || (y25.2 != 0)) || (y26.2 != 0)) || ((y23.1 == 1) && (y24.1 != 1)))) rfl hc44 .none rfl ?_
                        exact hJ43 _ ⟨rfl, rfl, rfl, rfl, rfl, rfl, rfl, rfl, rfl, or_f hc44 rfl⟩
                  · rintro f ⟨hf4, hf7, hf10, hf12, hf14, hf17, hf18, hf20, hf21, hf115⟩
                    refine (JL.norm (i := 4) hf4 (JL.norm (i := 7) hf7 (JL.norm (i := 10) hf10 (JL.norm (i := 12) hf12 (JL.norm (i := 14) hf14 (JL.norm (i := 17) hf17 (JL.norm (i := 18) hf18 (JL.norm (i := 20) hf20 (JL.norm (i := 21) hf21 (JL.norm (i := 115) hf115 ?_))))))))))
                    refine JL.move .none rfl ?_
                    refine JL.cut 7 (fun f => f 4 = .pointer (some ⟨b2, 0, none⟩) ∧ f 7 = .pointer (some ⟨b4, 0, none⟩) ∧ f 10 = .int .i64 y24.1 ∧ f 12 = .int .i64 y25.1 ∧ f 14 = .int .i64 y26.1 ∧ f 17 = .int .i64 y27.2.1 ∧ f 18 = .int .i64 y27.2.2 ∧ f 20 = .int .i64 y28.2.1 ∧ f 21 = .int .i64 y28.2.2 ∧ f 123 = .bool (((((((y23.2 != 0) || (y24.2 != 0)) || (y25.2 != 0)) || (y26.2 != 0)) || ((y23.1 == 1) && (y24.1 != 1))) || ((y24.1 == 2) && (y23.1 != 2))) || ((y25.1 == 2) && (y26.1 != 2)))) ?_ ?_
                    · intro hJ49
                      rcases bcases ((((((y23.2 != 0) || (y24.2 != 0)) || (y25.2 != 0)) || (y26.2 != 0)) || ((y23.1 == 1) && (y24.1 != 1))) || ((y24.1 == 2) && (y23.1 != 2))) with hc50 | hc50
                      · skip
                        refine JL.skip (.bool rfl rfl rfl hc50) rfl ?_
                        refine JL.skip (.bool rfl rfl rfl hc50) rfl ?_
                        refine JL.skip (.bool rfl rfl rfl hc50) rfl ?_
                        refine JL.skip (.no rfl rfl rfl) rfl ?_
                        refine JL.skip (.no rfl rfl rfl) rfl ?_
                        refine JL.skip (.bool rfl rfl rfl hc50) rfl ?_
                        refine JL.pick_t (b := ((((((y23.2 != 0) || (y24.2 != 0)) || (y25.2 != 0)) || (y26.2 != 0)) || ((y23.1 == 1) && (y24.1 != 1))) || ((y24.1 == 2) && (y23.1 != 2)))) rfl hc50 .none rfl ?_
                        exact hJ49 _ ⟨rfl, rfl, rfl, rfl, rfl, rfl, rfl, rfl, rfl, or_t hc50 rfl⟩
                      · skip
                        refine JL.move (.some rfl rfl rfl hc50) rfl ?_
                        refine JL.bin rfl rfl rfl (.some rfl rfl rfl hc50) rfl ?_
                        refine JL.move (.some rfl rfl rfl hc50) rfl ?_
                        refine JL.cut 3 (fun f => f 4 = .pointer (some ⟨b2, 0, none⟩) ∧ f 7 = .pointer (some ⟨b4, 0, none⟩) ∧ f 10 = .int .i64 y24.1 ∧ f 12 = .int .i64 y25.1 ∧ f 14 = .int .i64 y26.1 ∧ f 17 = .int .i64 y27.2.1 ∧ f 18 = .int .i64 y27.2.2 ∧ f 20 = .int .i64 y28.2.1 ∧ f 21 = .int .i64 y28.2.2 ∧ f 116 = .bool ((((((y23.2 != 0) || (y24.2 != 0)) || (y25.2 != 0)) || (y26.2 != 0)) || ((y23.1 == 1) && (y24.1 != 1))) || ((y24.1 == 2) && (y23.1 != 2))) ∧ f 122 = .bool ((y25.1 == 2) && (y26.1 != 2))) ?_ ?_
                        · intro hJ51
                          rcases bcases (y25.1 == 2) with hc52 | hc52
                          · skip
                            refine JL.move (.some rfl rfl rfl hc52) rfl ?_
                            refine JL.bin rfl rfl rfl (.some rfl rfl rfl hc52) rfl ?_
                            refine JL.pick_t (b := (y25.1 == 2)) rfl hc52 (.some rfl rfl rfl hc50) rfl ?_
                            exact hJ51 _ ⟨rfl, rfl, rfl, rfl, rfl, rfl, rfl, rfl, rfl, rfl, and_t hc52 rfl⟩
                          · skip
                            refine JL.skip (.bool rfl rfl rfl hc52) rfl ?_
                            refine JL.skip (.bool rfl rfl rfl hc52) rfl ?_
                            refine JL.pick_f (b := (y25.1 == 2)) rfl hc52 (.some rfl rfl rfl hc50) rfl ?_
                            exact hJ51 _ ⟨rfl, rfl, rfl, rfl, rfl, rfl, rfl, rfl, rfl, rfl, and_f hc52 rfl⟩
                        · rintro f ⟨hf4, hf7, hf10, hf12, hf14, hf17, hf18, hf20, hf21, hf116, hf122⟩
                          refine (JL.norm (i := 4) hf4 (JL.norm (i := 7) hf7 (JL.norm (i := 10) hf10 (JL.norm (i := 12) hf12 (JL.norm (i := 14) hf14 (JL.norm (i := 17) hf17 (JL.norm (i := 18) hf18 (JL.norm (i := 20) hf20 (JL.norm (i := 21) hf21 (JL.norm (i := 116) hf116 (JL.norm (i := 122) hf122 ?_)))))))))))
                          refine JL.pick_f (b := ((((((y23.2 != 0) || (y24.2 != 0)) || (y25.2 != 0)) || (y26.2 != 0)) || ((y23.1 == 1) && (y24.1 != 1))) || ((y24.1 == 2) && (y23.1 != 2)))) rfl hc50 .none rfl ?_
                          exact hJ49 _ ⟨rfl, rfl, rfl, rfl, rfl, rfl, rfl, rfl, rfl, or_f hc50 rfl⟩
                    · rintro f ⟨hf4, hf7, hf10, hf12, hf14, hf17, hf18, hf20, hf21, hf123⟩
                      refine (JL.norm (i := 4) hf4 (JL.norm (i := 7) hf7 (JL.norm (i := 10) hf10 (JL.norm (i := 12) hf12 (JL.norm (i := 14) hf14 (JL.norm (i := 17) hf17 (JL.norm (i := 18) hf18 (JL.norm (i := 20) hf20 (JL.norm (i := 21) hf21 (JL.norm (i := 123) hf123 ?_))))))))))
                      refine JL.move .none rfl ?_
                      refine JL.cut 7 (fun f => f 4 = .pointer (some ⟨b2, 0, none⟩) ∧ f 7 = .pointer (some ⟨b4, 0, none⟩) ∧ f 10 = .int .i64 y24.1 ∧ f 14 = .int .i64 y26.1 ∧ f 17 = .int .i64 y27.2.1 ∧ f 18 = .int .i64 y27.2.2 ∧ f 20 = .int .i64 y28.2.1 ∧ f 21 = .int .i64 y28.2.2 ∧ f 131 = .bool ((((((((y23.2 != 0) || (y24.2 != 0)) || (y25.2 != 0)) || (y26.2 != 0)) || ((y23.1 == 1) && (y24.1 != 1))) || ((y24.1 == 2) && (y23.1 != 2))) || ((y25.1 == 2) && (y26.1 != 2))) || ((y26.1 == 1) && (y25.1 != 1)))) ?_ ?_
                      · intro hJ55
                        rcases bcases (((((((y23.2 != 0) || (y24.2 != 0)) || (y25.2 != 0)) || (y26.2 != 0)) || ((y23.1 == 1) && (y24.1 != 1))) || ((y24.1 == 2) && (y23.1 != 2))) || ((y25.1 == 2) && (y26.1 != 2))) with hc56 | hc56
                        · skip
                          refine JL.skip (.bool rfl rfl rfl hc56) rfl ?_
                          refine JL.skip (.bool rfl rfl rfl hc56) rfl ?_
                          refine JL.skip (.bool rfl rfl rfl hc56) rfl ?_
                          refine JL.skip (.no rfl rfl rfl) rfl ?_
                          refine JL.skip (.no rfl rfl rfl) rfl ?_
                          refine JL.skip (.bool rfl rfl rfl hc56) rfl ?_
                          refine JL.pick_t (b := (((((((y23.2 != 0) || (y24.2 != 0)) || (y25.2 != 0)) || (y26.2 != 0)) || ((y23.1 == 1) && (y24.1 != 1))) || ((y24.1 == 2) && (y23.1 != 2))) || ((y25.1 == 2) && (y26.1 != 2)))) rfl hc56 .none rfl ?_
                          exact hJ55 _ ⟨rfl, rfl, rfl, rfl, rfl, rfl, rfl, rfl, or_t hc56 rfl⟩
                        · skip
                          refine JL.move (.some rfl rfl rfl hc56) rfl ?_
                          refine JL.bin rfl rfl rfl (.some rfl rfl rfl hc56) rfl ?_
                          refine JL.move (.some rfl rfl rfl hc56) rfl ?_
                          refine JL.cut 3 (fun f => f 4 = .pointer (some ⟨b2, 0, none⟩) ∧ f 7 = .pointer (some ⟨b4, 0, none⟩) ∧ f 10 = .int .i64 y24.1 ∧ f 14 = .int .i64 y26.1 ∧ f 17 = .int .i64 y27.2.1 ∧ f 18 = .int .i64 y27.2.2 ∧ f 20 = .int .i64 y28.2.1 ∧ f 21 = .int .i64 y28.2.2 ∧ f 124 = .bool (((((((y23.2 != 0) || (y24.2 != 0)) || (y25.2 != 0)) || (y26.2 != 0)) || ((y23.1 == 1) && (y24.1 != 1))) || ((y24.1 == 2) && (y23.1 != 2))) || ((y25.1 == 2) && (y26.1 != 2))) ∧ f 130 = .bool ((y26.1 == 1) && (y25.1 != 1))) ?_ ?_
                          · intro hJ57
                            rcases bcases (y26.1 == 1) with hc58 | hc58
                            · skip
                              refine JL.move (.some rfl rfl rfl hc58) rfl ?_
                              refine JL.bin rfl rfl rfl (.some rfl rfl rfl hc58) rfl ?_
                              refine JL.pick_t (b := (y26.1 == 1)) rfl hc58 (.some rfl rfl rfl hc56) rfl ?_
                              exact hJ57 _ ⟨rfl, rfl, rfl, rfl, rfl, rfl, rfl, rfl, rfl, and_t hc58 rfl⟩
                            · skip
                              refine JL.skip (.bool rfl rfl rfl hc58) rfl ?_
                              refine JL.skip (.bool rfl rfl rfl hc58) rfl ?_
                              refine JL.pick_f (b := (y26.1 == 1)) rfl hc58 (.some rfl rfl rfl hc56) rfl ?_
                              exact hJ57 _ ⟨rfl, rfl, rfl, rfl, rfl, rfl, rfl, rfl, rfl, and_f hc58 rfl⟩
                          · rintro f ⟨hf4, hf7, hf10, hf14, hf17, hf18, hf20, hf21, hf124, hf130⟩
                            refine (JL.norm (i := 4) hf4 (JL.norm (i := 7) hf7 (JL.norm (i := 10) hf10 (JL.norm (i := 14) hf14 (JL.norm (i := 17) hf17 (JL.norm (i := 18) hf18 (JL.norm (i := 20) hf20 (JL.norm (i := 21) hf21 (JL.norm (i := 124) hf124 (JL.norm (i := 130) hf130 ?_))))))))))
                            refine JL.pick_f (b := (((((((y23.2 != 0) || (y24.2 != 0)) || (y25.2 != 0)) || (y26.2 != 0)) || ((y23.1 == 1) && (y24.1 != 1))) || ((y24.1 == 2) && (y23.1 != 2))) || ((y25.1 == 2) && (y26.1 != 2)))) rfl hc56 .none rfl ?_
                            exact hJ55 _ ⟨rfl, rfl, rfl, rfl, rfl, rfl, rfl, rfl, or_f hc56 rfl⟩
                      · rintro f ⟨hf4, hf7, hf10, hf14, hf17, hf18, hf20, hf21, hf131⟩
                        refine (JL.norm (i := 4) hf4 (JL.norm (i := 7) hf7 (JL.norm (i := 10) hf10 (JL.norm (i := 14) hf14 (JL.norm (i := 17) hf17 (JL.norm (i := 18) hf18 (JL.norm (i := 20) hf20 (JL.norm (i := 21) hf21 (JL.norm (i := 131) hf131 ?_)))))))))
                        refine JL.done hQ ?_
                        refine JQ.go ?_
                        rcases ite_some hF with ⟨hc59, hF⟩ | ⟨hc59, hF⟩
                        · refine JC.cond_t (b := ((((((((y23.2 != 0) || (y24.2 != 0)) || (y25.2 != 0)) || (y26.2 != 0)) || ((y23.1 == 1) && (y24.1 != 1))) || ((y24.1 == 2) && (y23.1 != 2))) || ((y25.1 == 2) && (y26.1 != 2))) || ((y26.1 == 1) && (y25.1 != 1)))) rfl hc59 ?_
                          refine JC.seq ?_
                          refine JC.region (by rfl) ?_
                          intro hQ
                          refine JL.assign .none rfl ?_
                          refine JL.done hQ ?_
                          refine JQ.go ?_
                          refine JC.ret ?_
                          refine JQ.ret_then ?_
                          obtain rfl := Option.some.inj hF
                          exact JQ.outS rfl (.tmp .nil) rfl
                        · refine JC.cond_f (b := ((((((((y23.2 != 0) || (y24.2 != 0)) || (y25.2 != 0)) || (y26.2 != 0)) || ((y23.1 == 1) && (y24.1 != 1))) || ((y24.1 == 2) && (y23.1 != 2))) || ((y25.1 == 2) && (y26.1 != 2))) || ((y26.1 == 1) && (y25.1 != 1)))) rfl hc59 ?_
                          refine JC.skip ?_
                          refine JQ.go ?_
                          refine JC.seq ?_
                          refine JC.seq ?_
                          refine JC.region (by rfl) ?_
                          intro hQ
                          refine JL.move .none rfl ?_
                          refine JL.bin rfl rfl rfl .none rfl ?_
                          refine JL.move .none rfl ?_
                          refine JL.cut 8 (fun f => f 4 = .pointer (some ⟨b2, 0, none⟩) ∧ f 7 = .pointer (some ⟨b4, 0, none⟩) ∧ f 10 = .int .i64 y24.1 ∧ f 14 = .int .i64 y26.1 ∧ f 20 = .int .i64 y28.2.1 ∧ f 21 = .int .i64 y28.2.2 ∧ f 142 = .bool ((y27.2.2 == 0) && ((y28.2.2 != 0) || (decide (y28.2.1 < y27.2.1))))) ?_ ?_
                          · intro hJ62
                            rcases bcases (y27.2.2 == 0) with hc63 | hc63
                            · skip
                              refine JL.move (.some rfl rfl rfl hc63) rfl ?_
                              refine JL.bin rfl rfl rfl (.some rfl rfl rfl hc63) rfl ?_
                              refine JL.move (.some rfl rfl rfl hc63) rfl ?_
                              refine JL.cut 4 (fun f => f 4 = .pointer (some ⟨b2, 0, none⟩) ∧ f 7 = .pointer (some ⟨b4, 0, none⟩) ∧ f 10 = .int .i64 y24.1 ∧ f 14 = .int .i64 y26.1 ∧ f 20 = .int .i64 y28.2.1 ∧ f 21 = .int .i64 y28.2.2 ∧ f 134 = .bool (y27.2.2 == 0) ∧ f 141 = .bool ((y28.2.2 != 0) || (decide (y28.2.1 < y27.2.1)))) ?_ ?_
                              · intro hJ64
                                rcases bcases (y28.2.2 != 0) with hc65 | hc65
                                · skip
                                  refine JL.skip (.bool rfl rfl rfl hc65) rfl ?_
                                  refine JL.skip (.bool rfl rfl rfl hc65) rfl ?_
                                  refine JL.skip (.bool rfl rfl rfl hc65) rfl ?_
                                  refine JL.pick_t (b := (y28.2.2 != 0)) rfl hc65 (.some rfl rfl rfl hc63) rfl ?_
                                  exact hJ64 _ ⟨rfl, rfl, rfl, rfl, rfl, rfl, rfl, or_t hc65 rfl⟩
                                · skip
                                  refine JL.move (.some rfl rfl rfl hc65) rfl ?_
                                  refine JL.move (.some rfl rfl rfl hc65) rfl ?_
                                  refine JL.bin rfl rfl rfl (.some rfl rfl rfl hc65) rfl ?_
                                  refine JL.pick_f (b := (y28.2.2 != 0)) rfl hc65 (.some rfl rfl rfl hc63) rfl ?_
                                  exact hJ64 _ ⟨rfl, rfl, rfl, rfl, rfl, rfl, rfl, or_f hc65 rfl⟩
                              · rintro f ⟨hf4, hf7, hf10, hf14, hf20, hf21, hf134, hf141⟩
                                refine (JL.norm (i := 4) hf4 (JL.norm (i := 7) hf7 (JL.norm (i := 10) hf10 (JL.norm (i := 14) hf14 (JL.norm (i := 20) hf20 (JL.norm (i := 21) hf21 (JL.norm (i := 134) hf134 (JL.norm (i := 141) hf141 ?_))))))))
                                refine JL.pick_t (b := (y27.2.2 == 0)) rfl hc63 .none rfl ?_
                                exact hJ62 _ ⟨rfl, rfl, rfl, rfl, rfl, rfl, and_t hc63 rfl⟩
                            · skip
                              refine JL.skip (.bool rfl rfl rfl hc63) rfl ?_
                              refine JL.skip (.bool rfl rfl rfl hc63) rfl ?_
                              refine JL.skip (.bool rfl rfl rfl hc63) rfl ?_
                              refine JL.skip (.no rfl rfl rfl) rfl ?_
                              refine JL.skip (.no rfl rfl rfl) rfl ?_
                              refine JL.skip (.no rfl rfl rfl) rfl ?_
                              refine JL.skip (.bool rfl rfl rfl hc63) rfl ?_
                              refine JL.pick_f (b := (y27.2.2 == 0)) rfl hc63 .none rfl ?_
                              exact hJ62 _ ⟨rfl, rfl, rfl, rfl, rfl, rfl, and_f hc63 rfl⟩
                          · rintro f ⟨hf4, hf7, hf10, hf14, hf20, hf21, hf142⟩
                            refine (JL.norm (i := 4) hf4 (JL.norm (i := 7) hf7 (JL.norm (i := 10) hf10 (JL.norm (i := 14) hf14 (JL.norm (i := 20) hf20 (JL.norm (i := 21) hf21 (JL.norm (i := 142) hf142 ?_)))))))
                            refine JL.done hQ ?_
                            refine JQ.go ?_
                            rcases ite_some hF with ⟨hc66, hF⟩ | ⟨hc66, hF⟩
                            · refine JC.cond_t (b := ((y27.2.2 == 0) && ((y28.2.2 != 0) || (decide (y28.2.1 < y27.2.1))))) rfl hc66 ?_
                              refine JC.seq ?_
                              refine JC.region (by rfl) ?_
                              intro hQ
                              refine JL.assign .none rfl ?_
                              refine JL.done hQ ?_
                              refine JQ.go ?_
                              refine JC.ret ?_
                              refine JQ.ret_then ?_
                              obtain rfl := Option.some.inj hF
                              exact JQ.outS rfl (.tmp .nil) rfl
                            · refine JC.cond_f (b := ((y27.2.2 == 0) && ((y28.2.2 != 0) || (decide (y28.2.1 < y27.2.1))))) rfl hc66 ?_
                              refine JC.skip ?_
                              refine JQ.go ?_
                              refine JC.seq ?_
                              refine JC.region (by rfl) ?_
                              intro hQ
                              refine JL.fieldAddr fo_24_0 rfl .none rfl ?_
                              refine JL.loadOwn 2 az_3 rfl rfl rfl .none rfl ?_
                              refine JL.fieldAddr fo_24_1 rfl .none rfl ?_
                              refine JL.loadOwn 2 az_3 rfl rfl rfl .none rfl ?_
                              refine JL.bin rfl rfl rfl .none rfl ?_
                              refine JL.move .none rfl ?_
                              refine JL.cut 17 (fun f => f 165 = .bool ((decide (more.Num < more.Den)) || ((((y24.1 == 1) && (y26.1 == 2)) && (y28.2.2 == 0)) && (y28.2.1 == f_.High)))) ?_ ?_
                              · intro hJ73
                                rcases bcases (decide (more.Num < more.Den)) with hc74 | hc74
                                · skip
                                  refine JL.skip (.bool rfl rfl rfl hc74) rfl ?_
                                  refine JL.skip (.bool rfl rfl rfl hc74) rfl ?_
                                  refine JL.skip (.bool rfl rfl rfl hc74) rfl ?_
                                  refine JL.skip (.no rfl rfl rfl) rfl ?_
                                  refine JL.skip (.no rfl rfl rfl) rfl ?_
                                  refine JL.skip (.bool rfl rfl rfl hc74) rfl ?_
                                  refine JL.skip (.bool rfl rfl rfl hc74) rfl ?_
                                  refine JL.skip (.no rfl rfl rfl) rfl ?_
                                  refine JL.skip (.no rfl rfl rfl) rfl ?_
                                  refine JL.skip (.bool rfl rfl rfl hc74) rfl ?_
                                  refine JL.skip (.bool rfl rfl rfl hc74) rfl ?_
                                  refine JL.skip (.no rfl rfl rfl) rfl ?_
                                  refine JL.skip (.no rfl rfl rfl) rfl ?_
                                  refine JL.skip (.no rfl rfl rfl) rfl ?_
                                  refine JL.skip (.no rfl rfl rfl) rfl ?_
                                  refine JL.skip (.bool rfl rfl rfl hc74) rfl ?_
                                  refine JL.pick_t (b := decide (more.Num < more.Den)) rfl hc74 .none rfl ?_
                                  exact hJ73 _ (or_t hc74 rfl)
                                · skip
                                  refine JL.move (.some rfl rfl rfl hc74) rfl ?_
                                  refine JL.bin rfl rfl rfl (.some rfl rfl rfl hc74) rfl ?_
                                  refine JL.move (.some rfl rfl rfl hc74) rfl ?_
                                  refine JL.cut 3 (fun f => f 7 = .pointer (some ⟨b4, 0, none⟩) ∧ f 20 = .int .i64 y28.2.1 ∧ f 21 = .int .i64 y28.2.2 ∧ f 148 = .bool (decide (more.Num < more.Den)) ∧ f 154 = .bool ((y24.1 == 1) && (y26.1 == 2))) ?_ ?_
                                  · intro hJ75
                                    rcases bcases (y24.1 == 1) with hc76 | hc76
                                    · skip
                                      refine JL.move (.some rfl rfl rfl hc76) rfl ?_
                                      refine JL.bin rfl rfl rfl (.some rfl rfl rfl hc76) rfl ?_
                                      refine JL.pick_t (b := (y24.1 == 1)) rfl hc76 (.some rfl rfl rfl hc74) rfl ?_
                                      exact hJ75 _ ⟨rfl, rfl, rfl, rfl, and_t hc76 rfl⟩
                                    · skip
                                      refine JL.skip (.bool rfl rfl rfl hc76) rfl ?_
                                      refine JL.skip (.bool rfl rfl rfl hc76) rfl ?_
                                      refine JL.pick_f (b := (y24.1 == 1)) rfl hc76 (.some rfl rfl rfl hc74) rfl ?_
                                      exact hJ75 _ ⟨rfl, rfl, rfl, rfl, and_f hc76 rfl⟩
                                  · rintro f ⟨hf7, hf20, hf21, hf148, hf154⟩
                                    refine (JL.norm (i := 7) hf7 (JL.norm (i := 20) hf20 (JL.norm (i := 21) hf21 (JL.norm (i := 148) hf148 (JL.norm (i := 154) hf154 ?_)))))
                                    refine JL.move (.some rfl rfl rfl hc74) rfl ?_
                                    refine JL.cut 3 (fun f => f 7 = .pointer (some ⟨b4, 0, none⟩) ∧ f 20 = .int .i64 y28.2.1 ∧ f 148 = .bool (decide (more.Num < more.Den)) ∧ f 158 = .bool (((y24.1 == 1) && (y26.1 == 2)) && (y28.2.2 == 0))) ?_ ?_
                                    · intro hJ77
                                      rcases bcases ((y24.1 == 1) && (y26.1 == 2)) with hc78 | hc78
                                      · skip
                                        refine JL.move (.some rfl rfl rfl hc78) rfl ?_
                                        refine JL.bin rfl rfl rfl (.some rfl rfl rfl hc78) rfl ?_
                                        refine JL.pick_t (b := ((y24.1 == 1) && (y26.1 == 2))) rfl hc78 (.some rfl rfl rfl hc74) rfl ?_
                                        exact hJ77 _ ⟨rfl, rfl, rfl, and_t hc78 rfl⟩
                                      · skip
                                        refine JL.skip (.bool rfl rfl rfl hc78) rfl ?_
                                        refine JL.skip (.bool rfl rfl rfl hc78) rfl ?_
                                        refine JL.pick_f (b := ((y24.1 == 1) && (y26.1 == 2))) rfl hc78 (.some rfl rfl rfl hc74) rfl ?_
                                        exact hJ77 _ ⟨rfl, rfl, rfl, and_f hc78 rfl⟩
                                    · rintro f ⟨hf7, hf20, hf148, hf158⟩
                                      refine (JL.norm (i := 7) hf7 (JL.norm (i := 20) hf20 (JL.norm (i := 148) hf148 (JL.norm (i := 158) hf158 ?_))))
                                      refine JL.move (.some rfl rfl rfl hc74) rfl ?_
                                      refine JL.cut 5 (fun f => f 148 = .bool (decide (more.Num < more.Den)) ∧ f 164 = .bool ((((y24.1 == 1) && (y26.1 == 2)) && (y28.2.2 == 0)) && (y28.2.1 == f_.High))) ?_ ?_
                                      · intro hJ79
                                        rcases bcases (((y24.1 == 1) && (y26.1 == 2)) && (y28.2.2 == 0)) with hc80 | hc80
                                        · skip
                                          refine JL.move (.some rfl rfl rfl hc80) rfl ?_
                                          refine JL.fieldAddr fo_26_2 rfl (.some rfl rfl rfl hc80) rfl ?_
                                          refine JL.loadOwn 0 az_3 rfl rfl rfl (.some rfl rfl rfl hc80) rfl ?_
                                          refine JL.bin rfl rfl rfl (.some rfl rfl rfl hc80) rfl ?_
                                          refine JL.pick_t (b := (((y24.1 == 1) && (y26.1 == 2)) && (y28.2.2 == 0))) rfl hc80 (.some rfl rfl rfl hc74) rfl ?_
                                          exact hJ79 _ ⟨rfl, and_t hc80 rfl⟩
                                        · skip
                                          refine JL.skip (.bool rfl rfl rfl hc80) rfl ?_
                                          refine JL.skip (.bool rfl rfl rfl hc80) rfl ?_
                                          refine JL.skip (.bool rfl rfl rfl hc80) rfl ?_
                                          refine JL.skip (.bool rfl rfl rfl hc80) rfl ?_
                                          refine JL.pick_f (b := (((y24.1 == 1) && (y26.1 == 2)) && (y28.2.2 == 0))) rfl hc80 (.some rfl rfl rfl hc74) rfl ?_
                                          exact hJ79 _ ⟨rfl, and_f hc80 rfl⟩
                                      · rintro f ⟨hf148, hf164⟩
                                        refine (JL.norm (i := 148) hf148 (JL.norm (i := 164) hf164 ?_))
                                        refine JL.pick_f (b := decide (more.Num < more.Den)) rfl hc74 .none rfl ?_
                                        exact hJ73 _ (or_f hc74 rfl)
                              · rintro f hf165
                                refine (JL.norm (i := 165) hf165 ?_)
                                refine JL.move .none rfl ?_
                                obtain ⟨p82, hp82, hF⟩ := bind_some hF
                                refine JL.cut 2 (fun f => f 168 = .bool p82) ?_ ?_
                                · intro hJ83
                                  rcases ite_some hp82 with ⟨hc84, hF⟩ | ⟨hc84, hF⟩
                                  · skip
                                    obtain ⟨y85, hy85, hF⟩ := bind_some hF
                                    refine JL.callS (c_law01_works n H y85 hy85) rfl en_12 (.some rfl rfl rfl hc84) rfl ?_
                                    refine JL.pick_t (b := ((decide (more.Num < more.Den)) || ((((y24.1 == 1) && (y26.1 == 2)) && (y28.2.2 == 0)) && (y28.2.1 == f_.High)))) rfl hc84 .none rfl ?_
                                    obtain rfl := Option.some.inj hF
                                    exact hJ83 _ (rfl)
                                  · skip
                                    refine JL.skip (.bool rfl rfl rfl hc84) rfl ?_
                                    refine JL.pick_f (b := ((decide (more.Num < more.Den)) || ((((y24.1 == 1) && (y26.1 == 2)) && (y28.2.2 == 0)) && (y28.2.1 == f_.High)))) rfl hc84 .none rfl ?_
                                    obtain rfl := Option.some.inj hF
                                    exact hJ83 _ (rfl)
                                · rintro f hf168
                                  refine (JL.norm (i := 168) hf168 ?_)
                                  refine JL.assign .none rfl ?_
                                  refine JL.done hQ ?_
                                  refine JQ.go ?_
                                  refine JC.ret ?_
                                  obtain rfl := Option.some.inj hF
                                  exact JQ.outS rfl (.tmp .nil) rfl

-- 31 ferrule/ferrulelaw01.single
def F_law01_single (n : Nat) (p : ref01_Pair) (r : Int) : Option Frame :=
  some (Frame.mk [(Section.mk (Span.mk p.Arm p.Arm) (Span.mk p.Stretch p.Stretch) 0 (Frac.mk 0 1))] r r (Frac.mk 1 10) 0 0)
set_option maxRecDepth 100000 in
set_option maxHeartbeats 40000000 in
theorem c_law01_single (n : Nat) (H : Hp) (p : ref01_Pair) (r : Int) (y : Frame) (hF : F_law01_single n p r = some y) : HC Try.prog 31 [.agg [.int .i64 p.Arm, .int .i64 p.Stretch].toArray, .int .i64 r] H (fun H' v => ∃ ra_v0 : Value, v = .agg [ra_v0, .int .i64 y.Low, .int .i64 y.High, .int .i64 y.Ease.Num, .int .i64 y.Ease.Den, .int .i64 y.Rod, .int .i64 y.Case].toArray ∧ SL H' 7 R_Section ra_v0 y.Sections) := by
  rw [F_law01_single] at hF
  refine HC.of (N := 22) Try.func31 rfl rfl rfl fun w => ?_
  refine JC.seq ?_
  refine JC.region (by rfl) ?_
  intro hQ
  refine JL.box (cs := [.int .i64 p.Arm, .int .i64 p.Stretch]) rfl .none rfl ?_
  intro b1
  refine JL.alloc ze_26 .none rfl ?_
  intro b2
  refine JL.done hQ ?_
  refine JQ.go ?_
  refine JC.seq ?_
  refine JC.region (by rfl) ?_
  intro hQ
  refine JL.fieldAddr fo_45_0 rfl .none rfl ?_
  refine JL.loadOwn 1 az_3 rfl rfl rfl .none rfl ?_
  refine JL.fieldAddr fo_45_0 rfl .none rfl ?_
  refine JL.loadOwn 1 az_3 rfl rfl rfl .none rfl ?_
  refine JL.build (l := [.int .i64 p.Arm, .int .i64 p.Arm]) (by kernel_rfl) .none rfl ?_
  refine JL.fieldAddr fo_45_1 rfl .none rfl ?_
  refine JL.loadOwn 1 az_3 rfl rfl rfl .none rfl ?_
  refine JL.fieldAddr fo_45_1 rfl .none rfl ?_
  refine JL.loadOwn 1 az_3 rfl rfl rfl .none rfl ?_
  refine JL.build (l := [.int .i64 p.Stretch, .int .i64 p.Stretch]) (by kernel_rfl) .none rfl ?_
  refine JL.build (l := [.int .i64 0, .int .i64 1]) (by kernel_rfl) .none rfl ?_
  refine JL.build (l := [.int .i64 p.Arm, .int .i64 p.Arm, .int .i64 p.Stretch, .int .i64 p.Stretch, .int .i64 0, .int .i64 0, .int .i64 1]) (by kernel_rfl) .none rfl ?_
  refine JL.buildSlice (e := 61) (l := [.int .i64 p.Arm, .int .i64 p.Arm, .int .i64 p.Stretch, .int .i64 p.Stretch, .int .i64 0, .int .i64 0, .int .i64 1]) (by kernel_rfl) .none rfl ?_
  intro b3
  refine JL.move .none rfl ?_
  refine JL.move .none rfl ?_
  refine JL.build (l := [.int .i64 1, .int .i64 10]) (by kernel_rfl) .none rfl ?_
  refine JL.build (l := [.slice (some ⟨b3, 0, none⟩) 1 1, .int .i64 r, .int .i64 r, .int .i64 1, .int .i64 10, .int .i64 0, .int .i64 0]) (by kernel_rfl) .none rfl ?_
  refine JL.storeOwn 1 (cs := [.slice (some ⟨b3, 0, none⟩) 1 1, .int .i64 r, .int .i64 r, .int .i64 1, .int .i64 10, .int .i64 0, .int .i64 0]) az_26 rfl rfl rfl (one_cons rfl (one_cons rfl (one_cons rfl (one_cons rfl (one_cons rfl (one_cons rfl (one_cons rfl one_nil))))))) rfl rfl .none ?_
  refine JL.done hQ ?_
  refine JQ.go ?_
  refine JC.fresh (fun f => f 4 = .pointer (some ⟨b2, 0, none⟩)) rfl ?_
  rintro f hf4
  refine (JC.norm (i := 4) hf4 ?_)
  refine JC.ret ?_
  refine JQ.freezeC 0 (l := [.int .i64 p.Arm, .int .i64 p.Arm, .int .i64 p.Stretch, .int .i64 p.Stretch, .int .i64 0, .int .i64 0, .int .i64 1]) rfl ?_
  intro H4 hs4 hc5
  have hg6 : SL H4 7 R_Section (.slice (some ⟨b3, 0, none⟩) 1 1) [(Section.mk (Span.mk p.Arm p.Arm) (Span.mk p.Stretch p.Stretch) 0 (Frac.mk 0 1))] := CH.sl (l := [(Section.mk (Span.mk p.Arm p.Arm) (Span.mk p.Stretch p.Stretch) 0 (Frac.mk 0 1))]) (CH.cons (cs := [.int .i64 p.Arm, .int .i64 p.Arm, .int .i64 p.Stretch, .int .i64 p.Stretch, .int .i64 0, .int .i64 0, .int .i64 1]) rfl rfl CH.nil) hc5 ⟨by simp, by simp⟩
  obtain rfl := Option.some.inj hF
  exact JQ.outH rfl (.cell 0 az_26 rfl rfl rfl .nil) ⟨(.slice (some ⟨b3, 0, none⟩) 1 1), rfl, hg6⟩

end Go.Proofs.Ytmgnhaibbeinbaa
