/-
  Printed by a program: results that the caller owns, and functions that turn them.
-/
import Derived.Test.YtmgnhaibbeinbaaGenK16
import Derived.Test.YtmgnhaibbeinbaaEngS
namespace Go.Proofs.Ytmgnhaibbeinbaa
open Go Go.RowKit Go.Dec
set_option linter.unusedVariables false

set_option maxRecDepth 100000 in
set_option maxHeartbeats 40000000 in
theorem x_ref01_Copy (n : Nat) (H : Hp) (f_ : Frame) (f__v0 : Value) (hf__0 : SL H 7 R_Section f__v0 f_.Sections) (y : Frame) (hF : F_ref01_Copy n f_ = some y) : XC Try.prog 13 [.agg [f__v0, .int .i64 f_.Low, .int .i64 f_.High, .int .i64 f_.Ease.Num, .int .i64 f_.Ease.Den, .int .i64 f_.Rod, .int .i64 f_.Case].toArray] H (fun H' v gs' => ∃ (y_v0 : Value) (y_xs0 : List Value), v = .agg [y_v0, .int .i64 y.Low, .int .i64 y.High, .int .i64 y.Ease.Num, .int .i64 y.Ease.Den, .int .i64 y.Rod, .int .i64 y.Case].toArray ∧ gs' = [⟨y_v0, 61, 7, y.Sections.length, y_xs0⟩] ∧ CH H' 7 R_Section y_xs0 y.Sections) := by
  rw [F_ref01_Copy] at hF
  refine XC.of (N := 9) Try.func13 rfl rfl rfl fun w => ?_
  refine JC.seq ?_
  refine JC.region (by rfl) ?_
  intro hQ
  refine JL.box (cs := [f__v0, .int .i64 f_.Low, .int .i64 f_.High, .int .i64 f_.Ease.Num, .int .i64 f_.Ease.Den, .int .i64 f_.Rod, .int .i64 f_.Case]) rfl .none rfl ?_
  intro b1
  refine JL.alloc ze_26 .none rfl ?_
  intro b2
  refine JL.done hQ ?_
  refine JQ.go ?_
  refine JC.seq ?_
  refine JC.region (by rfl) ?_
  intro hQ
  refine JL.emptySlice ap_22 .none rfl ?_
  intro v3
  refine JL.fieldAddr fo_26_0 rfl .none rfl ?_
  refine JL.loadOwn 1 az_22 rfl rfl rfl .none rfl ?_
  obtain ⟨l5, hl5, hF⟩ := bind_some hF
  refine JL.appD (R := R_Section) 0 (l := ([] : List Section)) (m := f_.Sections) ap_22 rfl ⟨rfl, rfl⟩ rfl CH.nil rfl hf__0 (R_Section_one _) hl5 .none rfl ?_
  intro v6 xs7 hch8
  refine JL.fieldAddr fo_26_0 rfl .none rfl ?_
  refine JL.oneG 0 rfl (fun ho9 => ?_)
  refine JL.storeOwn 1 (cs := [v6]) az_22 rfl ho9.2 rfl (one_cons ho9.1 one_nil) rfl rfl .none ?_
  refine JL.done hQ ?_
  refine JQ.go ?_
  refine JC.seq ?_
  refine JC.region (by rfl) ?_
  intro hQ
  refine JL.loadOwn 1 az_26 rfl rfl rfl .none rfl ?_
  refine JL.oneG 0 rfl (fun ho10 => ?_)
  refine JL.storeOwn 0 (cs := [v6, .int .i64 f_.Low, .int .i64 f_.High, .int .i64 f_.Ease.Num, .int .i64 f_.Ease.Den, .int .i64 f_.Rod, .int .i64 f_.Case]) az_26 rfl rfl rfl (one_cons ho10.1 (one_cons rfl (one_cons rfl (one_cons rfl (one_cons rfl (one_cons rfl (one_cons rfl one_nil))))))) rfl rfl .none ?_
  refine JL.done hQ ?_
  refine JQ.go ?_
  refine JC.ret ?_
  obtain rfl := Option.some.inj hF
  exact JQ.outX rfl (.cell 0 az_26 rfl rfl rfl .nil) ⟨v6, xs7, rfl, rfl, hch8⟩

-- 9 ferrule/ferrulelaw01.FramesFiner
def F_law01_FramesFiner (n : Nat) (f_ : Frame) (y_ : law01_Finer) (x_ : law01_Ask) : Option Bool :=
  (F_law01_ready n f_).bind fun y4 => (if (!y4) = true then (some true) else ((F_law01_isAsk n f_ x_).bind fun y9 => some (!y9)) : Option Bool).bind fun p6 => (if p6 = true then (some true) else ((F_ref01_IsSection n f_ y_.Section).bind fun y14 => some (!y14)) : Option Bool).bind fun p11 => if ((p11 || (decide ((min (min y_.ArmLow y_.ArmHigh) (min y_.RodLow y_.RodHigh)) < 0))) || (decide (6 < (max (max y_.ArmLow y_.ArmHigh) (max y_.RodLow y_.RodHigh))))) = true then ((F_law01_works n).bind fun y20 => some y20) else ((F_ref01_Copy n f_).bind fun y21 => (geti y21.Sections y_.Section).bind fun y27 => (geti y21.Sections y_.Section).bind fun y31 => (F_law01_ready n (Frame.mk (setx y21.Sections y_.Section (Section.mk (Span.mk (w64 (y27.Arm.Low + y_.ArmLow)) (w64 (y27.Arm.High - y_.ArmHigh))) (Span.mk (w64 (y27.Stretch.Low + y_.RodLow)) (w64 (y27.Stretch.High - y_.RodHigh))) y27.Base y27.Gear)) y21.Low y21.High y21.Ease y21.Rod y21.Case)).bind fun y38 => if (!y38) = true then ((F_law01_works n).bind fun y40 => some y40) else ((F_frames_Cosine n f_ x_.Section x_.R).bind fun y41 => (F_frames_Cosine n (Frame.mk (setx y21.Sections y_.Section (Section.mk (Span.mk (w64 (y27.Arm.Low + y_.ArmLow)) (w64 (y27.Arm.High - y_.ArmHigh))) (Span.mk (w64 (y27.Stretch.Low + y_.RodLow)) (w64 (y27.Stretch.High - y_.RodHigh))) y27.Base y27.Gear)) y21.Low y21.High y21.Ease y21.Rod y21.Case) x_.Section x_.R).bind fun y44 => (if ((y41.2.2 != y44.2.2) || ((y41.2.2 != 0) && (y41.2.2 != 3))) = true then (some true) else ((if (y41.2.2 == 0) = true then ((F_law01_isFrac n y41.1).bind fun y140 => (if (!y140) = true then (some true) else ((F_law01_isFrac n y41.2.1).bind fun y145 => some (!y145)) : Option Bool).bind fun p142 => (if p142 = true then (some true) else ((F_law01_isFrac n y44.1).bind fun y150 => some (!y150)) : Option Bool).bind fun p147 => (if p147 = true then (some true) else ((F_law01_isFrac n y44.2.1).bind fun y155 => some (!y155)) : Option Bool).bind fun p152 => (if p152 = true then (some true) else ((F_ref01_Less n y44.1 y41.1).bind fun y160 => some y160) : Option Bool).bind fun p157 => (if p157 = true then (some true) else ((F_ref01_Less n y41.2.1 y44.2.1).bind fun y165 => some y165) : Option Bool).bind fun p162 => some p162) else (some false) : Option Bool).bind fun p137 => some p137) : Option Bool).bind fun p108 => if p108 = true then (some false) else ((F_frames_Binds n f_ x_.Section x_.R).bind fun y167 => (F_frames_Binds n (Frame.mk (setx y21.Sections y_.Section (Section.mk (Span.mk (w64 (y27.Arm.Low + y_.ArmLow)) (w64 (y27.Arm.High - y_.ArmHigh))) (Span.mk (w64 (y27.Stretch.Low + y_.RodLow)) (w64 (y27.Stretch.High - y_.RodHigh))) y27.Base y27.Gear)) y21.Low y21.High y21.Ease y21.Rod y21.Case) x_.Section x_.R).bind fun y168 => (F_frames_Opens n f_).bind fun y169 => (F_frames_Opens n (Frame.mk (setx y21.Sections y_.Section (Section.mk (Span.mk (w64 (y27.Arm.Low + y_.ArmLow)) (w64 (y27.Arm.High - y_.ArmHigh))) (Span.mk (w64 (y27.Stretch.Low + y_.RodLow)) (w64 (y27.Stretch.High - y_.RodHigh))) y27.Base y27.Gear)) y21.Low y21.High y21.Ease y21.Rod y21.Case)).bind fun y170 => (F_frames_Turns n f_ x_.Section).bind fun y171 => (F_frames_Turns n (Frame.mk (setx y21.Sections y_.Section (Section.mk (Span.mk (w64 (y27.Arm.Low + y_.ArmLow)) (w64 (y27.Arm.High - y_.ArmHigh))) (Span.mk (w64 (y27.Stretch.Low + y_.RodLow)) (w64 (y27.Stretch.High - y_.RodHigh))) y27.Base y27.Gear)) y21.Low y21.High y21.Ease y21.Rod y21.Case) x_.Section).bind fun y172 => (F_frames_Closes n f_).bind fun y173 => (F_frames_Closes n (Frame.mk (setx y21.Sections y_.Section (Section.mk (Span.mk (w64 (y27.Arm.Low + y_.ArmLow)) (w64 (y27.Arm.High - y_.ArmHigh))) (Span.mk (w64 (y27.Stretch.Low + y_.RodLow)) (w64 (y27.Stretch.High - y_.RodHigh))) y27.Base y27.Gear)) y21.Low y21.High y21.Ease y21.Rod y21.Case)).bind fun y174 => if ((((((((((((y167.2 != 0) || (y168.2 != 0)) || (y169.2 != 0)) || (y170.2 != 0)) || (y171.2 != 0)) || (y172.2 != 0)) || (y173.2 != 0)) || (y174.2 != 0)) || ((y167.1 != 3) && (y167.1 != y168.1))) || ((y169.1 != 3) && (y169.1 != y170.1))) || ((y171.1 != 3) && (y171.1 != y172.1))) || ((y173.1 != 3) && (y173.1 != y174.1))) = true then (some false) else ((F_frames_First n f_).bind fun y214 => (F_frames_First n (Frame.mk (setx y21.Sections y_.Section (Section.mk (Span.mk (w64 (y27.Arm.Low + y_.ArmLow)) (w64 (y27.Arm.High - y_.ArmHigh))) (Span.mk (w64 (y27.Stretch.Low + y_.RodLow)) (w64 (y27.Stretch.High - y_.RodHigh))) y27.Base y27.Gear)) y21.Low y21.High y21.Ease y21.Rod y21.Case)).bind fun y215 => (if ((y215.2.2 != 0) || ((y214.2.2 == 0) && (decide (y215.2.1 ≤ y214.2.1)))) = true then ((F_law01_works n).bind fun y226 => some y226) else (some false) : Option Bool).bind fun p223 => some p223))))
set_option maxRecDepth 100000 in
set_option maxHeartbeats 40000000 in
theorem c_law01_FramesFiner (n : Nat) (H : Hp) (f_ : Frame) (f__v0 : Value) (hf__0 : SL H 7 R_Section f__v0 f_.Sections) (y_ : law01_Finer) (x_ : law01_Ask) (y : Bool) (hF : F_law01_FramesFiner n f_ y_ x_ = some y) : SC Try.prog 9 [.agg [f__v0, .int .i64 f_.Low, .int .i64 f_.High, .int .i64 f_.Ease.Num, .int .i64 f_.Ease.Den, .int .i64 f_.Rod, .int .i64 f_.Case].toArray, .agg [.int .i64 y_.Section, .int .i64 y_.ArmLow, .int .i64 y_.ArmHigh, .int .i64 y_.RodLow, .int .i64 y_.RodHigh].toArray, .agg [.int .i64 x_.Section, .int .i64 x_.R].toArray] (.bool y) H := by
  rw [F_law01_FramesFiner] at hF
  refine SC.of (N := 337) Try.func9 rfl rfl rfl fun w => ?_
  refine JC.seq ?_
  refine JC.region (by rfl) ?_
  intro hQ
  refine JL.box (cs := [f__v0, .int .i64 f_.Low, .int .i64 f_.High, .int .i64 f_.Ease.Num, .int .i64 f_.Ease.Den, .int .i64 f_.Rod, .int .i64 f_.Case]) rfl .none rfl ?_
  intro b1
  refine JL.box (cs := [.int .i64 y_.Section, .int .i64 y_.ArmLow, .int .i64 y_.ArmHigh, .int .i64 y_.RodLow, .int .i64 y_.RodHigh]) rfl .none rfl ?_
  intro b2
  refine JL.box (cs := [.int .i64 x_.Section, .int .i64 x_.R]) rfl .none rfl ?_
  intro b3
  refine JL.assign .none rfl ?_
  refine JL.done hQ ?_
  refine JQ.go ?_
  refine JC.seq ?_
  refine JC.seq ?_
  refine JC.region (by rfl) ?_
  intro hQ
  refine JL.loadOwn 2 az_26 rfl rfl rfl .none rfl ?_
  obtain ⟨y4, hy4, hF⟩ := bind_some hF
  refine JL.callS (c_law01_ready n H f_ f__v0 hf__0 y4 hy4) rfl en_23 .none rfl ?_
  refine JL.not rfl .none rfl ?_
  refine JL.move .none rfl ?_
  obtain ⟨p6, hp6, hF⟩ := bind_some hF
  refine JL.cut 5 (fun f => f 3 = .pointer (some ⟨b1, 0, none⟩) ∧ f 4 = .pointer (some ⟨b2, 0, none⟩) ∧ f 5 = .pointer (some ⟨b3, 0, none⟩) ∧ f 45 = .bool p6) ?_ ?_
  · intro hJ7
    rcases ite_some hp6 with ⟨hc8, hF⟩ | ⟨hc8, hF⟩
    · skip
      refine JL.skip (.bool rfl rfl rfl hc8) rfl ?_
      refine JL.skip (.bool rfl rfl rfl hc8) rfl ?_
      refine JL.skip (.bool rfl rfl rfl hc8) rfl ?_
      refine JL.skip (.bool rfl rfl rfl hc8) rfl ?_
      refine JL.pick_t (b := (!y4)) rfl hc8 .none rfl ?_
      obtain rfl := Option.some.inj hF
      exact hJ7 _ ⟨rfl, rfl, rfl, rfl⟩
    · skip
      refine JL.loadOwn 2 az_26 rfl rfl rfl (.some rfl rfl rfl hc8) rfl ?_
      refine JL.loadOwn 0 az_28 rfl rfl rfl (.some rfl rfl rfl hc8) rfl ?_
      obtain ⟨y9, hy9, hF⟩ := bind_some hF
      refine JL.callS (c_law01_isAsk n H f_ f__v0 hf__0 x_ y9 hy9) rfl en_24 (.some rfl rfl rfl hc8) rfl ?_
      refine JL.not rfl (.some rfl rfl rfl hc8) rfl ?_
      refine JL.pick_f (b := (!y4)) rfl hc8 .none rfl ?_
      obtain rfl := Option.some.inj hF
      exact hJ7 _ ⟨rfl, rfl, rfl, rfl⟩
  · rintro f ⟨hf3, hf4, hf5, hf45⟩
    refine (JL.norm (i := 3) hf3 (JL.norm (i := 4) hf4 (JL.norm (i := 5) hf5 (JL.norm (i := 45) hf45 ?_))))
    refine JL.move .none rfl ?_
    obtain ⟨p11, hp11, hF⟩ := bind_some hF
    refine JL.cut 6 (fun f => f 3 = .pointer (some ⟨b1, 0, none⟩) ∧ f 4 = .pointer (some ⟨b2, 0, none⟩) ∧ f 5 = .pointer (some ⟨b3, 0, none⟩) ∧ f 52 = .bool p11) ?_ ?_
    · intro hJ12
      rcases ite_some hp11 with ⟨hc13, hF⟩ | ⟨hc13, hF⟩
      · skip
        refine JL.skip (.bool rfl rfl rfl hc13) rfl ?_
        refine JL.skip (.bool rfl rfl rfl hc13) rfl ?_
        refine JL.skip (.bool rfl rfl rfl hc13) rfl ?_
        refine JL.skip (.bool rfl rfl rfl hc13) rfl ?_
        refine JL.skip (.bool rfl rfl rfl hc13) rfl ?_
        refine JL.pick_t (b := p6) rfl hc13 .none rfl ?_
        obtain rfl := Option.some.inj hF
        exact hJ12 _ ⟨rfl, rfl, rfl, rfl⟩
      · skip
        refine JL.loadOwn 2 az_26 rfl rfl rfl (.some rfl rfl rfl hc13) rfl ?_
        refine JL.fieldAddr fo_67_0 rfl (.some rfl rfl rfl hc13) rfl ?_
        refine JL.loadOwn 1 az_3 rfl rfl rfl (.some rfl rfl rfl hc13) rfl ?_
        obtain ⟨y14, hy14, hF⟩ := bind_some hF
        refine JL.callS (c_ref01_IsSection n H f_ f__v0 hf__0 y_.Section y14 hy14) rfl en_40 (.some rfl rfl rfl hc13) rfl ?_
        refine JL.not rfl (.some rfl rfl rfl hc13) rfl ?_
        refine JL.pick_f (b := p6) rfl hc13 .none rfl ?_
        obtain rfl := Option.some.inj hF
        exact hJ12 _ ⟨rfl, rfl, rfl, rfl⟩
    · rintro f ⟨hf3, hf4, hf5, hf52⟩
      refine (JL.norm (i := 3) hf3 (JL.norm (i := 4) hf4 (JL.norm (i := 5) hf5 (JL.norm (i := 52) hf52 ?_))))
      refine JL.move .none rfl ?_
      refine JL.cut 13 (fun f => f 3 = .pointer (some ⟨b1, 0, none⟩) ∧ f 4 = .pointer (some ⟨b2, 0, none⟩) ∧ f 5 = .pointer (some ⟨b3, 0, none⟩) ∧ f 66 = .bool (p11 || (decide ((min (min y_.ArmLow y_.ArmHigh) (min y_.RodLow y_.RodHigh)) < 0)))) ?_ ?_
      · intro hJ15
        rcases bcases p11 with hc16 | hc16
        · skip
          refine JL.skip (.bool rfl rfl rfl hc16) rfl ?_
          refine JL.skip (.bool rfl rfl rfl hc16) rfl ?_
          refine JL.skip (.bool rfl rfl rfl hc16) rfl ?_
          refine JL.skip (.bool rfl rfl rfl hc16) rfl ?_
          refine JL.skip (.bool rfl rfl rfl hc16) rfl ?_
          refine JL.skip (.bool rfl rfl rfl hc16) rfl ?_
          refine JL.skip (.bool rfl rfl rfl hc16) rfl ?_
          refine JL.skip (.bool rfl rfl rfl hc16) rfl ?_
          refine JL.skip (.bool rfl rfl rfl hc16) rfl ?_
          refine JL.skip (.bool rfl rfl rfl hc16) rfl ?_
          refine JL.skip (.bool rfl rfl rfl hc16) rfl ?_
          refine JL.skip (.bool rfl rfl rfl hc16) rfl ?_
          refine JL.pick_t (b := p11) rfl hc16 .none rfl ?_
          exact hJ15 _ ⟨rfl, rfl, rfl, or_t hc16 rfl⟩
        · skip
          refine JL.fieldAddr fo_67_1 rfl (.some rfl rfl rfl hc16) rfl ?_
          refine JL.loadOwn 1 az_3 rfl rfl rfl (.some rfl rfl rfl hc16) rfl ?_
          refine JL.fieldAddr fo_67_2 rfl (.some rfl rfl rfl hc16) rfl ?_
          refine JL.loadOwn 1 az_3 rfl rfl rfl (.some rfl rfl rfl hc16) rfl ?_
          refine JL.min rfl rfl (.some rfl rfl rfl hc16) rfl ?_
          refine JL.fieldAddr fo_67_3 rfl (.some rfl rfl rfl hc16) rfl ?_
          refine JL.loadOwn 1 az_3 rfl rfl rfl (.some rfl rfl rfl hc16) rfl ?_
          refine JL.fieldAddr fo_67_4 rfl (.some rfl rfl rfl hc16) rfl ?_
          refine JL.loadOwn 1 az_3 rfl rfl rfl (.some rfl rfl rfl hc16) rfl ?_
          refine JL.min rfl rfl (.some rfl rfl rfl hc16) rfl ?_
          refine JL.min rfl rfl (.some rfl rfl rfl hc16) rfl ?_
          refine JL.bin rfl rfl rfl (.some rfl rfl rfl hc16) rfl ?_
          refine JL.pick_f (b := p11) rfl hc16 .none rfl ?_
          exact hJ15 _ ⟨rfl, rfl, rfl, or_f hc16 rfl⟩
      · rintro f ⟨hf3, hf4, hf5, hf66⟩
        refine (JL.norm (i := 3) hf3 (JL.norm (i := 4) hf4 (JL.norm (i := 5) hf5 (JL.norm (i := 66) hf66 ?_))))
        refine JL.move .none rfl ?_
        refine JL.cut 13 (fun f => f 3 = .pointer (some ⟨b1, 0, none⟩) ∧ f 4 = .pointer (some ⟨b2, 0, none⟩) ∧ f 5 = .pointer (some ⟨b3, 0, none⟩) ∧ f 80 = .bool ((p11 || (decide ((min (min y_.ArmLow y_.ArmHigh) (min y_.RodLow y_.RodHigh)) < 0))) || (decide (6 < (max (max y_.ArmLow y_.ArmHigh) (max y_.RodLow y_.RodHigh)))))) ?_ ?_
        · intro hJ17
          rcases bcases (p11 || (decide ((min (min y_.ArmLow y_.ArmHigh) (min y_.RodLow y_.RodHigh)) < 0))) with hc18 | hc18
          · skip
            refine JL.skip (.bool rfl rfl rfl hc18) rfl ?_
            refine JL.skip (.bool rfl rfl rfl hc18) rfl ?_
            refine JL.skip (.bool rfl rfl rfl hc18) rfl ?_
            refine JL.skip (.bool rfl rfl rfl hc18) rfl ?_
            refine JL.skip (.bool rfl rfl rfl hc18) rfl ?_
            refine JL.skip (.bool rfl rfl rfl hc18) rfl ?_
            refine JL.skip (.bool rfl rfl rfl hc18) rfl ?_
            refine JL.skip (.bool rfl rfl rfl hc18) rfl ?_
            refine JL.skip (.bool rfl rfl rfl hc18) rfl ?_
            refine JL.skip (.bool rfl rfl rfl hc18) rfl ?_
            refine JL.skip (.bool rfl rfl rfl hc18) rfl ?_
            refine JL.skip (.bool rfl rfl rfl hc18) rfl ?_
            refine JL.pick_t (b := (p11 || (decide ((min (min y_.ArmLow y_.ArmHigh) (min y_.RodLow y_.RodHigh)) < 0)))) rfl hc18 .none rfl ?_
            exact hJ17 _ ⟨rfl, rfl, rfl, or_t hc18 rfl⟩
          · skip
            refine JL.fieldAddr fo_67_1 rfl (.some rfl rfl rfl hc18) rfl ?_
            refine JL.loadOwn 1 az_3 rfl rfl rfl (.some rfl rfl rfl hc18) rfl ?_
            refine JL.fieldAddr fo_67_2 rfl (.some rfl rfl rfl hc18) rfl ?_
            refine JL.loadOwn 1 az_3 rfl rfl rfl (.some rfl rfl rfl hc18) rfl ?_
            refine JL.max rfl rfl (.some rfl rfl rfl hc18) rfl ?_
            refine JL.fieldAddr fo_67_3 rfl (.some rfl rfl rfl hc18) rfl ?_
            refine JL.loadOwn 1 az_3 rfl rfl rfl (.some rfl rfl rfl hc18) rfl ?_
            refine JL.fieldAddr fo_67_4 rfl (.some rfl rfl rfl hc18) rfl ?_
            refine JL.loadOwn 1 az_3 rfl rfl rfl (.some rfl rfl rfl hc18) rfl ?_
            refine JL.max rfl rfl (.some rfl rfl rfl hc18) rfl ?_
            refine JL.max rfl rfl (.some rfl rfl rfl hc18) rfl ?_
            refine JL.bin rfl rfl rfl (.some rfl rfl rfl hc18) rfl ?_
            refine JL.pick_f (b := (p11 || (decide ((min (min y_.ArmLow y_.ArmHigh) (min y_.RodLow y_.RodHigh)) < 0)))) rfl hc18 .none rfl ?_
            exact hJ17 _ ⟨rfl, rfl, rfl, or_f hc18 rfl⟩
        · rintro f ⟨hf3, hf4, hf5, hf80⟩
          refine (JL.norm (i := 3) hf3 (JL.norm (i := 4) hf4 (JL.norm (i := 5) hf5 (JL.norm (i := 80) hf80 ?_))))
          refine JL.done hQ ?_
          refine JQ.go ?_
          rcases ite_some hF with ⟨hc19, hF⟩ | ⟨hc19, hF⟩
          · refine JC.cond_t (b := ((p11 || (decide ((min (min y_.ArmLow y_.ArmHigh) (min y_.RodLow y_.RodHigh)) < 0))) || (decide (6 < (max (max y_.ArmLow y_.ArmHigh) (max y_.RodLow y_.RodHigh)))))) rfl hc19 ?_
            refine JC.seq ?_
            refine JC.region (by rfl) ?_
            intro hQ
            obtain ⟨y20, hy20, hF⟩ := bind_some hF
            refine JL.callS (c_law01_works n H y20 hy20) rfl en_12 .none rfl ?_
            refine JL.assign .none rfl ?_
            refine JL.done hQ ?_
            refine JQ.go ?_
            refine JC.ret ?_
            refine JQ.ret_then ?_
            obtain rfl := Option.some.inj hF
            exact JQ.outS rfl (.tmp .nil) rfl
          · refine JC.cond_f (b := ((p11 || (decide ((min (min y_.ArmLow y_.ArmHigh) (min y_.RodLow y_.RodHigh)) < 0))) || (decide (6 < (max (max y_.ArmLow y_.ArmHigh) (max y_.RodLow y_.RodHigh)))))) rfl hc19 ?_
            refine JC.skip ?_
            refine JQ.go ?_
            refine JC.seq ?_
            refine JC.region (by rfl) ?_
            intro hQ
            refine JL.loadOwn 2 az_26 rfl rfl rfl .none rfl ?_
            obtain ⟨y21, hy21, hF⟩ := bind_some hF
            refine JL.callXC (x_ref01_Copy n H f_ f__v0 hf__0 y21 hy21) rfl en_13 .none rfl ?_
            rintro H22 vv23 _ hs22 ⟨y21_v0, y21_xs0, rfl, rfl, hy21_0⟩
            refine JL.alloc ze_26 .none rfl ?_
            intro b25
            refine JL.oneG 0 rfl (fun ho26 => ?_)
            refine JL.storeOwn 0 (cs := [y21_v0, .int .i64 y21.Low, .int .i64 y21.High, .int .i64 y21.Ease.Num, .int .i64 y21.Ease.Den, .int .i64 y21.Rod, .int .i64 y21.Case]) az_26 rfl rfl rfl (one_cons ho26.1 (one_cons rfl (one_cons rfl (one_cons rfl (one_cons rfl (one_cons rfl (one_cons rfl one_nil))))))) rfl rfl .none ?_
            refine JL.done hQ ?_
            refine JQ.go ?_
            refine JC.seq ?_
            refine JC.region (by rfl) ?_
            intro hQ
            refine JL.fieldAddr fo_26_0 rfl .none rfl ?_
            refine JL.loadOwn 0 az_22 rfl rfl rfl .none rfl ?_
            refine JL.fieldAddr fo_67_0 rfl .none rfl ?_
            refine JL.loadOwn 2 az_3 rfl rfl rfl .none rfl ?_
            obtain ⟨y27, hy27, hF⟩ := bind_some hF
            refine JL.indexG 0 (l := y21.Sections) sl_22 rfl rfl rfl rfl hy27 .none rfl ?_
            intro b28 hb29
            refine JL.loadG (R := R_Section) 0 (i := y_.Section) (l := y21.Sections) (off := 0) az_61 rfl rfl rfl hb29 hy21_0 hy27 (by rintro cs rfl; rfl) .none rfl ?_
            refine JL.alloc ze_61 .none rfl ?_
            intro b30
            refine JL.storeOwn 0 (cs := [.int .i64 y27.Arm.Low, .int .i64 y27.Arm.High, .int .i64 y27.Stretch.Low, .int .i64 y27.Stretch.High, .int .i64 y27.Base, .int .i64 y27.Gear.Num, .int .i64 y27.Gear.Den]) az_61 rfl rfl rfl (one_cons rfl (one_cons rfl (one_cons rfl (one_cons rfl (one_cons rfl (one_cons rfl (one_cons rfl one_nil))))))) rfl rfl .none ?_
            refine JL.done hQ ?_
            refine JQ.go ?_
            refine JC.fresh (fun f => f 3 = .pointer (some ⟨b1, 0, none⟩) ∧ f 4 = .pointer (some ⟨b2, 0, none⟩) ∧ f 5 = .pointer (some ⟨b3, 0, none⟩) ∧ f 7 = .pointer (some ⟨b25, 0, none⟩) ∧ f 8 = .pointer (some ⟨b30, 0, none⟩)) ⟨rfl, rfl, rfl, rfl, rfl⟩ ?_
            rintro f ⟨hf3, hf4, hf5, hf7, hf8⟩
            refine (JC.norm (i := 3) hf3 (JC.norm (i := 4) hf4 (JC.norm (i := 5) hf5 (JC.norm (i := 7) hf7 (JC.norm (i := 8) hf8 ?_)))))
            refine JC.seq ?_
            refine JC.region (by rfl) ?_
            intro hQ
            refine JL.fieldAddr fo_61_0 rfl .none rfl ?_
            refine JL.fieldAddr fo_59_0 rfl .none rfl ?_
            refine JL.loadOwn 0 az_3 rfl rfl rfl .none rfl ?_
            refine JL.fieldAddr fo_67_1 rfl .none rfl ?_
            refine JL.loadOwn 3 az_3 rfl rfl rfl .none rfl ?_
            refine JL.bin rfl rfl rfl .none rfl ?_
            refine JL.fieldAddr fo_61_0 rfl .none rfl ?_
            refine JL.fieldAddr fo_59_1 rfl .none rfl ?_
            refine JL.loadOwn 0 az_3 rfl rfl rfl .none rfl ?_
            refine JL.fieldAddr fo_67_2 rfl .none rfl ?_
            refine JL.loadOwn 3 az_3 rfl rfl rfl .none rfl ?_
            refine JL.bin rfl rfl rfl .none rfl ?_
            refine JL.build (l := [.int .i64 (w64 (y27.Arm.Low + y_.ArmLow)), .int .i64 (w64 (y27.Arm.High - y_.ArmHigh))]) (by kernel_rfl) .none rfl ?_
            refine JL.fieldAddr fo_61_0 rfl .none rfl ?_
            refine JL.storeOwn 0 (cs := [.int .i64 (w64 (y27.Arm.Low + y_.ArmLow)), .int .i64 (w64 (y27.Arm.High - y_.ArmHigh))]) az_59 rfl rfl rfl (one_cons rfl (one_cons rfl one_nil)) rfl rfl .none ?_
            refine JL.done hQ ?_
            refine JQ.go ?_
            refine JC.fresh (fun f => f 3 = .pointer (some ⟨b1, 0, none⟩) ∧ f 4 = .pointer (some ⟨b2, 0, none⟩) ∧ f 5 = .pointer (some ⟨b3, 0, none⟩) ∧ f 7 = .pointer (some ⟨b25, 0, none⟩) ∧ f 8 = .pointer (some ⟨b30, 0, none⟩)) ⟨rfl, rfl, rfl, rfl, rfl⟩ ?_
            rintro f ⟨hf3, hf4, hf5, hf7, hf8⟩
            refine (JC.norm (i := 3) hf3 (JC.norm (i := 4) hf4 (JC.norm (i := 5) hf5 (JC.norm (i := 7) hf7 (JC.norm (i := 8) hf8 ?_)))))
            refine JC.seq ?_
            refine JC.region (by rfl) ?_
            intro hQ
            refine JL.fieldAddr fo_61_1 rfl .none rfl ?_
            refine JL.fieldAddr fo_59_0 rfl .none rfl ?_
            refine JL.loadOwn 0 az_3 rfl rfl rfl .none rfl ?_
            refine JL.fieldAddr fo_67_3 rfl .none rfl ?_
            refine JL.loadOwn 3 az_3 rfl rfl rfl .none rfl ?_
            refine JL.bin rfl rfl rfl .none rfl ?_
            refine JL.fieldAddr fo_61_1 rfl .none rfl ?_
            refine JL.fieldAddr fo_59_1 rfl .none rfl ?_
            refine JL.loadOwn 0 az_3 rfl rfl rfl .none rfl ?_
            refine JL.fieldAddr fo_67_4 rfl .none rfl ?_
            refine JL.loadOwn 3 az_3 rfl rfl rfl .none rfl ?_
            refine JL.bin rfl rfl rfl .none rfl ?_
            refine JL.build (l := [.int .i64 (w64 (y27.Stretch.Low + y_.RodLow)), .int .i64 (w64 (y27.Stretch.High - y_.RodHigh))]) (by kernel_rfl) .none rfl ?_
            refine JL.fieldAddr fo_61_1 rfl .none rfl ?_
            refine JL.storeOwn 0 (cs := [.int .i64 (w64 (y27.Stretch.Low + y_.RodLow)), .int .i64 (w64 (y27.Stretch.High - y_.RodHigh))]) az_59 rfl rfl rfl (one_cons rfl (one_cons rfl one_nil)) rfl rfl .none ?_
            refine JL.done hQ ?_
            refine JQ.go ?_
            refine JC.fresh (fun f => f 3 = .pointer (some ⟨b1, 0, none⟩) ∧ f 4 = .pointer (some ⟨b2, 0, none⟩) ∧ f 5 = .pointer (some ⟨b3, 0, none⟩) ∧ f 7 = .pointer (some ⟨b25, 0, none⟩) ∧ f 8 = .pointer (some ⟨b30, 0, none⟩)) ⟨rfl, rfl, rfl, rfl, rfl⟩ ?_
            rintro f ⟨hf3, hf4, hf5, hf7, hf8⟩
            refine (JC.norm (i := 3) hf3 (JC.norm (i := 4) hf4 (JC.norm (i := 5) hf5 (JC.norm (i := 7) hf7 (JC.norm (i := 8) hf8 ?_)))))
            refine JC.seq ?_
            refine JC.region (by rfl) ?_
            intro hQ
            refine JL.fieldAddr fo_26_0 rfl .none rfl ?_
            refine JL.loadOwn 1 az_22 rfl rfl rfl .none rfl ?_
            refine JL.fieldAddr fo_67_0 rfl .none rfl ?_
            refine JL.loadOwn 3 az_3 rfl rfl rfl .none rfl ?_
            refine JL.loadOwn 0 az_61 rfl rfl rfl .none rfl ?_
            obtain ⟨y31, hy31, hF⟩ := bind_some hF
            refine JL.indexG 0 (l := y21.Sections) sl_22 rfl rfl rfl rfl hy31 .none rfl ?_
            intro b32 hb33
            refine JL.storeG (R := R_Section) 0 (i := y_.Section) (l := y21.Sections) (y := y31) (y' := (Section.mk (Span.mk (w64 (y27.Arm.Low + y_.ArmLow)) (w64 (y27.Arm.High - y_.ArmHigh))) (Span.mk (w64 (y27.Stretch.Low + y_.RodLow)) (w64 (y27.Stretch.High - y_.RodHigh))) y27.Base y27.Gear)) (off := 0) az_61 rfl rfl rfl rfl (one_cons rfl (one_cons rfl (one_cons rfl (one_cons rfl (one_cons rfl (one_cons rfl (one_cons rfl one_nil))))))) rfl hb33 hy21_0 rfl hy31 rfl (by rintro cs rfl; rfl) .none ?_
            intro xs34 hch35
            refine JL.done hQ ?_
            refine JQ.go ?_
            refine JC.seq ?_
            refine JC.seq ?_
            refine JC.region (by rfl) ?_
            intro hQ
            refine JL.loadOwn 1 az_26 rfl rfl rfl .none rfl ?_
            refine JL.freezeG 0 (R := R_Section) rfl R_Section_mono hch35 rfl ?_
            intro H36 hs36 hg37
            obtain ⟨y38, hy38, hF⟩ := bind_some hF
            refine JL.callS (c_law01_ready n H36 (Frame.mk (setx y21.Sections y_.Section (Section.mk (Span.mk (w64 (y27.Arm.Low + y_.ArmLow)) (w64 (y27.Arm.High - y_.ArmHigh))) (Span.mk (w64 (y27.Stretch.Low + y_.RodLow)) (w64 (y27.Stretch.High - y_.RodHigh))) y27.Base y27.Gear)) y21.Low y21.High y21.Ease y21.Rod y21.Case) y21_v0 hg37 y38 hy38) rfl en_23 .none rfl ?_
            refine JL.not rfl .none rfl ?_
            refine JL.done hQ ?_
            refine JQ.go ?_
            refine JC.fresh (fun f => f 3 = .pointer (some ⟨b1, 0, none⟩) ∧ f 5 = .pointer (some ⟨b3, 0, none⟩) ∧ f 7 = .pointer (some ⟨b25, 0, none⟩) ∧ f 126 = .bool (!y38)) ⟨rfl, rfl, rfl, rfl⟩ ?_
            rintro f ⟨hf3, hf5, hf7, hf126⟩
            refine (JC.norm (i := 3) hf3 (JC.norm (i := 5) hf5 (JC.norm (i := 7) hf7 (JC.norm (i := 126) hf126 ?_))))
            rcases ite_some hF with ⟨hc39, hF⟩ | ⟨hc39, hF⟩
            · refine JC.cond_t (b := (!y38)) rfl hc39 ?_
              refine JC.seq ?_
              refine JC.region (by rfl) ?_
              intro hQ
              obtain ⟨y40, hy40, hF⟩ := bind_some hF
              refine JL.callS (c_law01_works n H36 y40 hy40) rfl en_12 .none rfl ?_
              refine JL.assign .none rfl ?_
              refine JL.done hQ ?_
              refine JQ.go ?_
              refine JC.ret ?_
              refine JQ.ret_then ?_
              obtain rfl := Option.some.inj hF
              exact JQ.outS rfl (.tmp .nil) rfl
            · refine JC.cond_f (b := (!y38)) rfl hc39 ?_
              refine JC.skip ?_
              refine JQ.go ?_
              refine JC.seq ?_
              refine JC.region (by rfl) ?_
              intro hQ
              refine JL.loadOwn 4 az_26 rfl rfl rfl .none rfl ?_
              refine JL.fieldAddr fo_28_0 rfl .none rfl ?_
              refine JL.loadOwn 2 az_3 rfl rfl rfl .none rfl ?_
              refine JL.fieldAddr fo_28_1 rfl .none rfl ?_
              refine JL.loadOwn 2 az_3 rfl rfl rfl .none rfl ?_
              obtain ⟨y41, hy41, hF⟩ := bind_some hF
              refine JL.callS (c_frames_Cosine n H36 f_ f__v0 (SL.mono R_Section_mono (HSub.trans hs22 hs36) hf__0) x_.Section x_.R y41 hy41) rfl en_18 .none rfl ?_
              refine JL.move .none rfl ?_
              refine JL.extract rfl rfl .none rfl ?_
              refine JL.extract rfl rfl .none rfl ?_
              refine JL.extract rfl rfl .none rfl ?_
              refine JL.alloc ze_24 .none rfl ?_
              intro b42
              refine JL.alloc ze_24 .none rfl ?_
              intro b43
              refine JL.storeOwn 1 (cs := [.int .i64 y41.1.Num, .int .i64 y41.1.Den]) az_24 rfl rfl rfl (one_cons rfl (one_cons rfl one_nil)) rfl rfl .none ?_
              refine JL.storeOwn 0 (cs := [.int .i64 y41.2.1.Num, .int .i64 y41.2.1.Den]) az_24 rfl rfl rfl (one_cons rfl (one_cons rfl one_nil)) rfl rfl .none ?_
              refine JL.assign .none rfl ?_
              refine JL.done hQ ?_
              refine JQ.go ?_
              refine JC.fresh (fun f => f 3 = .pointer (some ⟨b1, 0, none⟩) ∧ f 5 = .pointer (some ⟨b3, 0, none⟩) ∧ f 7 = .pointer (some ⟨b25, 0, none⟩) ∧ f 9 = .pointer (some ⟨b42, 0, none⟩) ∧ f 10 = .pointer (some ⟨b43, 0, none⟩) ∧ f 11 = .int .i64 y41.2.2) ⟨rfl, rfl, rfl, rfl, rfl, rfl⟩ ?_
              rintro f ⟨hf3, hf5, hf7, hf9, hf10, hf11⟩
              refine (JC.norm (i := 3) hf3 (JC.norm (i := 5) hf5 (JC.norm (i := 7) hf7 (JC.norm (i := 9) hf9 (JC.norm (i := 10) hf10 (JC.norm (i := 11) hf11 ?_))))))
              refine JC.seq ?_
              refine JC.region (by rfl) ?_
              intro hQ
              refine JL.loadOwn 3 az_26 rfl rfl rfl .none rfl ?_
              refine JL.fieldAddr fo_28_0 rfl .none rfl ?_
              refine JL.loadOwn 4 az_3 rfl rfl rfl .none rfl ?_
              refine JL.fieldAddr fo_28_1 rfl .none rfl ?_
              refine JL.loadOwn 4 az_3 rfl rfl rfl .none rfl ?_
              obtain ⟨y44, hy44, hF⟩ := bind_some hF
              refine JL.callS (c_frames_Cosine n H36 (Frame.mk (setx y21.Sections y_.Section (Section.mk (Span.mk (w64 (y27.Arm.Low + y_.ArmLow)) (w64 (y27.Arm.High - y_.ArmHigh))) (Span.mk (w64 (y27.Stretch.Low + y_.RodLow)) (w64 (y27.Stretch.High - y_.RodHigh))) y27.Base y27.Gear)) y21.Low y21.High y21.Ease y21.Rod y21.Case) y21_v0 hg37 x_.Section x_.R y44 hy44) rfl en_18 .none rfl ?_
              refine JL.move .none rfl ?_
              refine JL.extract rfl rfl .none rfl ?_
              refine JL.extract rfl rfl .none rfl ?_
              refine JL.extract rfl rfl .none rfl ?_
              refine JL.alloc ze_24 .none rfl ?_
              intro b45
              refine JL.alloc ze_24 .none rfl ?_
              intro b46
              refine JL.storeOwn 1 (cs := [.int .i64 y44.1.Num, .int .i64 y44.1.Den]) az_24 rfl rfl rfl (one_cons rfl (one_cons rfl one_nil)) rfl rfl .none ?_
              refine JL.storeOwn 0 (cs := [.int .i64 y44.2.1.Num, .int .i64 y44.2.1.Den]) az_24 rfl rfl rfl (one_cons rfl (one_cons rfl one_nil)) rfl rfl .none ?_
              refine JL.assign .none rfl ?_
              refine JL.done hQ ?_
              refine JQ.go ?_
              refine JC.fresh (fun f => f 3 = .pointer (some ⟨b1, 0, none⟩) ∧ f 5 = .pointer (some ⟨b3, 0, none⟩) ∧ f 7 = .pointer (some ⟨b25, 0, none⟩) ∧ f 9 = .pointer (some ⟨b42, 0, none⟩) ∧ f 10 = .pointer (some ⟨b43, 0, none⟩) ∧ f 11 = .int .i64 y41.2.2 ∧ f 12 = .pointer (some ⟨b45, 0, none⟩) ∧ f 13 = .pointer (some ⟨b46, 0, none⟩) ∧ f 14 = .int .i64 y44.2.2) ⟨rfl, rfl, rfl, rfl, rfl, rfl, rfl, rfl, rfl⟩ ?_
              rintro f ⟨hf3, hf5, hf7, hf9, hf10, hf11, hf12, hf13, hf14⟩
              refine (JC.norm (i := 3) hf3 (JC.norm (i := 5) hf5 (JC.norm (i := 7) hf7 (JC.norm (i := 9) hf9 (JC.norm (i := 10) hf10 (JC.norm (i := 11) hf11 (JC.norm (i := 12) hf12 (JC.norm (i := 13) hf13 (JC.norm (i := 14) hf14 ?_)))))))))
              refine JC.seq ?_
              refine JC.seq ?_
              refine JC.region (by rfl) ?_
              intro hQ
              refine JL.move .none rfl ?_
              refine JL.move .none rfl ?_
              refine JL.bin rfl rfl rfl .none rfl ?_
              refine JL.move .none rfl ?_
              refine JL.cut 7 (fun f => f 3 = .pointer (some ⟨b1, 0, none⟩) ∧ f 5 = .pointer (some ⟨b3, 0, none⟩) ∧ f 7 = .pointer (some ⟨b25, 0, none⟩) ∧ f 9 = .pointer (some ⟨b42, 0, none⟩) ∧ f 10 = .pointer (some ⟨b43, 0, none⟩) ∧ f 11 = .int .i64 y41.2.2 ∧ f 12 = .pointer (some ⟨b45, 0, none⟩) ∧ f 13 = .pointer (some ⟨b46, 0, none⟩) ∧ f 158 = .bool ((y41.2.2 != y44.2.2) || ((y41.2.2 != 0) && (y41.2.2 != 3)))) ?_ ?_
              · intro hJ49
                rcases bcases (y41.2.2 != y44.2.2) with hc50 | hc50
                · skip
                  refine JL.skip (.bool rfl rfl rfl hc50) rfl ?_
                  refine JL.skip (.bool rfl rfl rfl hc50) rfl ?_
                  refine JL.skip (.bool rfl rfl rfl hc50) rfl ?_
                  refine JL.skip (.no rfl rfl rfl) rfl ?_
                  refine JL.skip (.no rfl rfl rfl) rfl ?_
                  refine JL.skip (.bool rfl rfl rfl hc50) rfl ?_
                  refine JL.pick_t (b := (y41.2.2 != y44.2.2)) rfl hc50 .none rfl ?_
                  exact hJ49 _ ⟨rfl, rfl, rfl, rfl, rfl, rfl, rfl, rfl, or_t hc50 rfl⟩
                · skip
                  refine JL.move (.some rfl rfl rfl hc50) rfl ?_
                  refine JL.bin rfl rfl rfl (.some rfl rfl rfl hc50) rfl ?_
                  refine JL.move (.some rfl rfl rfl hc50) rfl ?_
                  refine JL.cut 3 (fun f => f 3 = .pointer (some ⟨b1, 0, none⟩) ∧ f 5 = .pointer (some ⟨b3, 0, none⟩) ∧ f 7 = .pointer (some ⟨b25, 0, none⟩) ∧ f 9 = .pointer (some ⟨b42, 0, none⟩) ∧ f 10 = .pointer (some ⟨b43, 0, none⟩) ∧ f 11 = .int .i64 y41.2.2 ∧ f 12 = .pointer (some ⟨b45, 0, none⟩) ∧ f 13 = .pointer (some ⟨b46, 0, none⟩) ∧ f 151 = .bool (y41.2.2 != y44.2.2) ∧ f 157 = .bool ((y41.2.2 != 0) && (y41.2.2 != 3))) ?_ ?_
                  · intro hJ51
                    rcases bcases (y41.2.2 != 0) with hc52 | hc52
                    · skip
                      refine JL.move (.some rfl rfl rfl hc52) rfl ?_
                      refine JL.bin rfl rfl rfl (.some rfl rfl rfl hc52) rfl ?_
                      refine JL.pick_t (b := (y41.2.2 != 0)) rfl hc52 (.some rfl rfl rfl hc50) rfl ?_
                      exact hJ51 _ ⟨rfl, rfl, rfl, rfl, rfl, rfl, rfl, rfl, rfl, and_t hc52 rfl⟩
                    · skip
                      refine JL.skip (.bool rfl rfl rfl hc52) rfl ?_
                      refine JL.skip (.bool rfl rfl rfl hc52) rfl ?_
                      refine JL.pick_f (b := (y41.2.2 != 0)) rfl hc52 (.some rfl rfl rfl hc50) rfl ?_
                      exact hJ51 _ ⟨rfl, rfl, rfl, rfl, rfl, rfl, rfl, rfl, rfl, and_f hc52 rfl⟩
                  · rintro f ⟨hf3, hf5, hf7, hf9, hf10, hf11, hf12, hf13, hf151, hf157⟩
                    refine (JL.norm (i := 3) hf3 (JL.norm (i := 5) hf5 (JL.norm (i := 7) hf7 (JL.norm (i := 9) hf9 (JL.norm (i := 10) hf10 (JL.norm (i := 11) hf11 (JL.norm (i := 12) hf12 (JL.norm (i := 13) hf13 (JL.norm (i := 151) hf151 (JL.norm (i := 157) hf157 ?_))))))))))
                    refine JL.pick_f (b := (y41.2.2 != y44.2.2)) rfl hc50 .none rfl ?_
                    exact hJ49 _ ⟨rfl, rfl, rfl, rfl, rfl, rfl, rfl, rfl, or_f hc50 rfl⟩
              · rintro f ⟨hf3, hf5, hf7, hf9, hf10, hf11, hf12, hf13, hf158⟩
                refine (JL.norm (i := 3) hf3 (JL.norm (i := 5) hf5 (JL.norm (i := 7) hf7 (JL.norm (i := 9) hf9 (JL.norm (i := 10) hf10 (JL.norm (i := 11) hf11 (JL.norm (i := 12) hf12 (JL.norm (i := 13) hf13 (JL.norm (i := 158) hf158 ?_)))))))))
                refine JL.move .none rfl ?_
                obtain ⟨p108, hp108, hF⟩ := bind_some hF
                refine JL.cut 33 (fun f => f 3 = .pointer (some ⟨b1, 0, none⟩) ∧ f 5 = .pointer (some ⟨b3, 0, none⟩) ∧ f 7 = .pointer (some ⟨b25, 0, none⟩) ∧ f 192 = .bool p108) ?_ ?_
                · intro hJ109
                  rcases ite_some hp108 with ⟨hc110, hF⟩ | ⟨hc110, hF⟩
                  · skip
                    refine JL.skip (.bool rfl rfl rfl hc110) rfl ?_
                    refine JL.skip (.bool rfl rfl rfl hc110) rfl ?_
                    refine JL.skip (.bool rfl rfl rfl hc110) rfl ?_
                    refine JL.skip (.no rfl rfl rfl) rfl ?_
                    refine JL.skip (.no rfl rfl rfl) rfl ?_
                    refine JL.skip (.no rfl rfl rfl) rfl ?_
                    refine JL.skip (.no rfl rfl rfl) rfl ?_
                    refine JL.skip (.no rfl rfl rfl) rfl ?_
                    refine JL.skip (.no rfl rfl rfl) rfl ?_
                    refine JL.skip (.no rfl rfl rfl) rfl ?_
                    refine JL.skip (.no rfl rfl rfl) rfl ?_
                    refine JL.skip (.no rfl rfl rfl) rfl ?_
                    refine JL.skip (.no rfl rfl rfl) rfl ?_
                    refine JL.skip (.no rfl rfl rfl) rfl ?_
                    refine JL.skip (.no rfl rfl rfl) rfl ?_
                    refine JL.skip (.no rfl rfl rfl) rfl ?_
                    refine JL.skip (.no rfl rfl rfl) rfl ?_
                    refine JL.skip (.no rfl rfl rfl) rfl ?_
                    refine JL.skip (.no rfl rfl rfl) rfl ?_
                    refine JL.skip (.no rfl rfl rfl) rfl ?_
                    refine JL.skip (.no rfl rfl rfl) rfl ?_
                    refine JL.skip (.no rfl rfl rfl) rfl ?_
                    refine JL.skip (.no rfl rfl rfl) rfl ?_
                    refine JL.skip (.no rfl rfl rfl) rfl ?_
                    refine JL.skip (.no rfl rfl rfl) rfl ?_
                    refine JL.skip (.no rfl rfl rfl) rfl ?_
                    refine JL.skip (.no rfl rfl rfl) rfl ?_
                    refine JL.skip (.no rfl rfl rfl) rfl ?_
                    refine JL.skip (.no rfl rfl rfl) rfl ?_
                    refine JL.skip (.no rfl rfl rfl) rfl ?_
                    refine JL.skip (.no rfl rfl rfl) rfl ?_
                    refine JL.skip (.bool rfl rfl rfl hc110) rfl ?_
                    refine JL.pick_t (b := ((y41.2.2 != y44.2.2) || ((y41.2.2 != 0) && (y41.2.2 != 3)))) rfl hc110 .none rfl ?_
                    obtain rfl := Option.some.inj hF
                    exact hJ109 _ ⟨rfl, rfl, rfl, rfl⟩
                  · skip
                    refine JL.move (.some rfl rfl rfl hc110) rfl ?_
                    refine JL.bin rfl rfl rfl (.some rfl rfl rfl hc110) rfl ?_
                    refine JL.move (.some rfl rfl rfl hc110) rfl ?_
                    obtain ⟨p137, hp137, hF⟩ := bind_some hF
                    refine JL.cut 29 (fun f => f 3 = .pointer (some ⟨b1, 0, none⟩) ∧ f 5 = .pointer (some ⟨b3, 0, none⟩) ∧ f 7 = .pointer (some ⟨b25, 0, none⟩) ∧ f 159 = .bool ((y41.2.2 != y44.2.2) || ((y41.2.2 != 0) && (y41.2.2 != 3))) ∧ f 191 = .bool p137) ?_ ?_
                    · intro hJ138
                      rcases ite_some hp137 with ⟨hc139, hF⟩ | ⟨hc139, hF⟩
                      · skip
                        refine JL.loadOwn 3 az_24 rfl rfl rfl (.some rfl rfl rfl hc139) rfl ?_
                        obtain ⟨y140, hy140, hF⟩ := bind_some hF
                        refine JL.callS (c_law01_isFrac n H36 y41.1 y140 hy140) rfl en_37 (.some rfl rfl rfl hc139) rfl ?_
                        refine JL.not rfl (.some rfl rfl rfl hc139) rfl ?_
                        refine JL.move (.some rfl rfl rfl hc139) rfl ?_
                        obtain ⟨p142, hp142, hF⟩ := bind_some hF
                        refine JL.cut 4 (fun f => f 3 = .pointer (some ⟨b1, 0, none⟩) ∧ f 5 = .pointer (some ⟨b3, 0, none⟩) ∧ f 7 = .pointer (some ⟨b25, 0, none⟩) ∧ f 9 = .pointer (some ⟨b42, 0, none⟩) ∧ f 10 = .pointer (some ⟨b43, 0, none⟩) ∧ f 12 = .pointer (some ⟨b45, 0, none⟩) ∧ f 13 = .pointer (some ⟨b46, 0, none⟩) ∧ f 159 = .bool ((y41.2.2 != y44.2.2) || ((y41.2.2 != 0) && (y41.2.2 != 3))) ∧ f 162 = .bool (y41.2.2 == 0) ∧ f 170 = .bool p142) ?_ ?_
                        · intro hJ143
                          rcases ite_some hp142 with ⟨hc144, hF⟩ | ⟨hc144, hF⟩
                          · skip
                            refine JL.skip (.bool rfl rfl rfl hc144) rfl ?_
                            refine JL.skip (.bool rfl rfl rfl hc144) rfl ?_
                            refine JL.skip (.bool rfl rfl rfl hc144) rfl ?_
                            refine JL.pick_t (b := (!y140)) rfl hc144 (.some rfl rfl rfl hc139) rfl ?_
                            obtain rfl := Option.some.inj hF
                            exact hJ143 _ ⟨rfl, rfl, rfl, rfl, rfl, rfl, rfl, rfl, rfl, rfl⟩
                          · skip
                            refine JL.loadOwn 2 az_24 rfl rfl rfl (.some rfl rfl rfl hc144) rfl ?_
                            obtain ⟨y145, hy145, hF⟩ := bind_some hF
                            refine JL.callS (c_law01_isFrac n H36 y41.2.1 y145 hy145) rfl en_37 (.some rfl rfl rfl hc144) rfl ?_
                            refine JL.not rfl (.some rfl rfl rfl hc144) rfl ?_
                            refine JL.pick_f (b := (!y140)) rfl hc144 (.some rfl rfl rfl hc139) rfl ?_
                            obtain rfl := Option.some.inj hF
                            exact hJ143 _ ⟨rfl, rfl, rfl, rfl, rfl, rfl, rfl, rfl, rfl, rfl⟩
                        · rintro f ⟨hf3, hf5, hf7, hf9, hf10, hf12, hf13, hf159, hf162, hf170⟩
                          refine (JL.norm (i := 3) hf3 (JL.norm (i := 5) hf5 (JL.norm (i := 7) hf7 (JL.norm (i := 9) hf9 (JL.norm (i := 10) hf10 (JL.norm (i := 12) hf12 (JL.norm (i := 13) hf13 (JL.norm (i := 159) hf159 (JL.norm (i := 162) hf162 (JL.norm (i := 170) hf170 ?_))))))))))
                          refine JL.move (.some rfl rfl rfl hc139) rfl ?_
                          obtain ⟨p147, hp147, hF⟩ := bind_some hF
                          refine JL.cut 4 (fun f => f 3 = .pointer (some ⟨b1, 0, none⟩) ∧ f 5 = .pointer (some ⟨b3, 0, none⟩) ∧ f 7 = .pointer (some ⟨b25, 0, none⟩) ∧ f 9 = .pointer (some ⟨b42, 0, none⟩) ∧ f 10 = .pointer (some ⟨b43, 0, none⟩) ∧ f 12 = .pointer (some ⟨b45, 0, none⟩) ∧ f 13 = .pointer (some ⟨b46, 0, none⟩) ∧ f 159 = .bool ((y41.2.2 != y44.2.2) || ((y41.2.2 != 0) && (y41.2.2 != 3))) ∧ f 162 = .bool (y41.2.2 == 0) ∧ f 175 = .bool p147) ?_ ?_
                          · intro hJ148
                            rcases ite_some hp147 with ⟨hc149, hF⟩ | ⟨hc149, hF⟩
                            · skip
                              refine JL.skip (.bool rfl rfl rfl hc149) rfl ?_
                              refine JL.skip (.bool rfl rfl rfl hc149) rfl ?_
                              refine JL.skip (.bool rfl rfl rfl hc149) rfl ?_
                              refine JL.pick_t (b := p142) rfl hc149 (.some rfl rfl rfl hc139) rfl ?_
                              obtain rfl := Option.some.inj hF
                              exact hJ148 _ ⟨rfl, rfl, rfl, rfl, rfl, rfl, rfl, rfl, rfl, rfl⟩
                            · skip
                              refine JL.loadOwn 1 az_24 rfl rfl rfl (.some rfl rfl rfl hc149) rfl ?_
                              obtain ⟨y150, hy150, hF⟩ := bind_some hF
                              refine JL.callS (c_law01_isFrac n H36 y44.1 y150 hy150) rfl en_37 (.some rfl rfl rfl hc149) rfl ?_
                              refine JL.not rfl (.some rfl rfl rfl hc149) rfl ?_
                              refine JL.pick_f (b := p142) rfl hc149 (.some rfl rfl rfl hc139) rfl ?_
                              obtain rfl := Option.some.inj hF
                              exact hJ148 _ ⟨rfl, rfl, rfl, rfl, rfl, rfl, rfl, rfl, rfl, rfl⟩
                          · rintro f ⟨hf3, hf5, hf7, hf9, hf10, hf12, hf13, hf159, hf162, hf175⟩
                            refine (JL.norm (i := 3) hf3 (JL.norm (i := 5) hf5 (JL.norm (i := 7) hf7 (JL.norm (i := 9) hf9 (JL.norm (i := 10) hf10 (JL.norm (i := 12) hf12 (JL.norm (i := 13) hf13 (JL.norm (i := 159) hf159 (JL.norm (i := 162) hf162 (JL.norm (i := 175) hf175 ?_))))))))))
                            refine JL.move (.some rfl rfl rfl hc139) rfl ?_
                            obtain ⟨p152, hp152, hF⟩ := bind_some hF
                            refine JL.cut 4 (fun f => f 3 = .pointer (some ⟨b1, 0, none⟩) ∧ f 5 = .pointer (some ⟨b3, 0, none⟩) ∧ f 7 = .pointer (some ⟨b25, 0, none⟩) ∧ f 9 = .pointer (some ⟨b42, 0, none⟩) ∧ f 10 = .pointer (some ⟨b43, 0, none⟩) ∧ f 12 = .pointer (some ⟨b45, 0, none⟩) ∧ f 13 = .pointer (some ⟨b46, 0, none⟩) ∧ f 159 = .bool ((y41.2.2 != y44.2.2) || ((y41.2.2 != 0) && (y41.2.2 != 3))) ∧ f 162 = .bool (y41.2.2 == 0) ∧ f 180 = .bool p152) ?_ ?_
                            · intro hJ153
                              rcases ite_some hp152 with ⟨hc154, hF⟩ | ⟨hc154, hF⟩
                              · skip
                                refine JL.skip (.bool rfl rfl rfl hc154) rfl ?_
                                refine JL.skip (.bool rfl rfl rfl hc154) rfl ?_
                                refine JL.skip (.bool rfl rfl rfl hc154) rfl ?_
                                refine JL.pick_t (b := p147) rfl hc154 (.some rfl rfl rfl hc139) rfl ?_
                                obtain rfl := Option.some.inj hF
                                exact hJ153 _ ⟨rfl, rfl, rfl, rfl, rfl, rfl, rfl, rfl, rfl, rfl⟩
                              · skip
                                refine JL.loadOwn 0 az_24 rfl rfl rfl (.some rfl rfl rfl hc154) rfl ?_
                                obtain ⟨y155, hy155, hF⟩ := bind_some hF
                                refine JL.callS (c_law01_isFrac n H36 y44.2.1 y155 hy155) rfl en_37 (.some rfl rfl rfl hc154) rfl ?_
                                refine JL.not rfl (.some rfl rfl rfl hc154) rfl ?_
                                refine JL.pick_f (b := p147) rfl hc154 (.some rfl rfl rfl hc139) rfl ?_
                                obtain rfl := Option.some.inj hF
                                exact hJ153 _ ⟨rfl, rfl, rfl, rfl, rfl, rfl, rfl, rfl, rfl, rfl⟩
                            · rintro f ⟨hf3, hf5, hf7, hf9, hf10, hf12, hf13, hf159, hf162, hf180⟩
                              refine (JL.norm (i := 3) hf3 (JL.norm (i := 5) hf5 (JL.norm (i := 7) hf7 (JL.norm (i := 9) hf9 (JL.norm (i := 10) hf10 (JL.norm (i := 12) hf12 (JL.norm (i := 13) hf13 (JL.norm (i := 159) hf159 (JL.norm (i := 162) hf162 (JL.norm (i := 180) hf180 ?_))))))))))
                              refine JL.move (.some rfl rfl rfl hc139) rfl ?_
                              obtain ⟨p157, hp157, hF⟩ := bind_some hF
                              refine JL.cut 4 (fun f => f 3 = .pointer (some ⟨b1, 0, none⟩) ∧ f 5 = .pointer (some ⟨b3, 0, none⟩) ∧ f 7 = .pointer (some ⟨b25, 0, none⟩) ∧ f 10 = .pointer (some ⟨b43, 0, none⟩) ∧ f 13 = .pointer (some ⟨b46, 0, none⟩) ∧ f 159 = .bool ((y41.2.2 != y44.2.2) || ((y41.2.2 != 0) && (y41.2.2 != 3))) ∧ f 162 = .bool (y41.2.2 == 0) ∧ f 185 = .bool p157) ?_ ?_
                              · intro hJ158
                                rcases ite_some hp157 with ⟨hc159, hF⟩ | ⟨hc159, hF⟩
                                · skip
                                  refine JL.skip (.bool rfl rfl rfl hc159) rfl ?_
                                  refine JL.skip (.bool rfl rfl rfl hc159) rfl ?_
                                  refine JL.skip (.bool rfl rfl rfl hc159) rfl ?_
                                  refine JL.pick_t (b := p152) rfl hc159 (.some rfl rfl rfl hc139) rfl ?_
                                  obtain rfl := Option.some.inj hF
                                  exact hJ158 _ ⟨rfl, rfl, rfl, rfl, rfl, rfl, rfl, rfl⟩
                                · skip
                                  refine JL.loadOwn 1 az_24 rfl rfl rfl (.some rfl rfl rfl hc159) rfl ?_
                                  refine JL.loadOwn 3 az_24 rfl rfl rfl (.some rfl rfl rfl hc159) rfl ?_
                                  obtain ⟨y160, hy160, hF⟩ := bind_some hF
                                  refine JL.callS (c_ref01_Less n H36 y44.1 y41.1 y160 hy160) rfl en_29 (.some rfl rfl rfl hc159) rfl ?_
                                  refine JL.pick_f (b := p152) rfl hc159 (.some rfl rfl rfl hc139) rfl ?_
                                  obtain rfl := Option.some.inj hF
                                  exact hJ158 _ ⟨rfl, rfl, rfl, rfl, rfl, rfl, rfl, rfl⟩
                              · rintro f ⟨hf3, hf5, hf7, hf10, hf13, hf159, hf162, hf185⟩
                                refine (JL.norm (i := 3) hf3 (JL.norm (i := 5) hf5 (JL.norm (i := 7) hf7 (JL.norm (i := 10) hf10 (JL.norm (i := 13) hf13 (JL.norm (i := 159) hf159 (JL.norm (i := 162) hf162 (JL.norm (i := 185) hf185 ?_))))))))
                                refine JL.move (.some rfl rfl rfl hc139) rfl ?_
                                obtain ⟨p162, hp162, hF⟩ := bind_some hF
                                refine JL.cut 4 (fun f => f 3 = .pointer (some ⟨b1, 0, none⟩) ∧ f 5 = .pointer (some ⟨b3, 0, none⟩) ∧ f 7 = .pointer (some ⟨b25, 0, none⟩) ∧ f 159 = .bool ((y41.2.2 != y44.2.2) || ((y41.2.2 != 0) && (y41.2.2 != 3))) ∧ f 162 = .bool (y41.2.2 == 0) ∧ f 190 = .bool p162) ?_ ?_
                                · intro hJ163
                                  rcases ite_some hp162 with ⟨hc164, hF⟩ | ⟨hc164, hF⟩
                                  · skip
                                    refine JL.skip (.bool rfl rfl rfl hc164) rfl ?_
                                    refine JL.skip (.bool rfl rfl rfl hc164) rfl ?_
                                    refine JL.skip (.bool rfl rfl rfl hc164) rfl ?_
                                    refine JL.pick_t (b := p157) rfl hc164 (.some rfl rfl rfl hc139) rfl ?_
                                    obtain rfl := Option.some.inj hF
                                    exact hJ163 _ ⟨rfl, rfl, rfl, rfl, rfl, rfl⟩
                                  · skip
                                    refine JL.loadOwn 2 az_24 rfl rfl rfl (.some rfl rfl rfl hc164) rfl ?_
                                    refine JL.loadOwn 0 az_24 rfl rfl rfl (.some rfl rfl rfl hc164) rfl ?_
                                    obtain ⟨y165, hy165, hF⟩ := bind_some hF
                                    refine JL.callS (c_ref01_Less n H36 y41.2.1 y44.2.1 y165 hy165) rfl en_29 (.some rfl rfl rfl hc164) rfl ?_
                                    refine JL.pick_f (b := p157) rfl hc164 (.some rfl rfl rfl hc139) rfl ?_
                                    obtain rfl := Option.some.inj hF
                                    exact hJ163 _ ⟨rfl, rfl, rfl, rfl, rfl, rfl⟩
                                · rintro f ⟨hf3, hf5, hf7, hf159, hf162, hf190⟩
                                  refine (JL.norm (i := 3) hf3 (JL.norm (i := 5) hf5 (JL.norm (i := 7) hf7 (JL.norm (i := 159) hf159 (JL.norm (i := 162) hf162 (JL.norm (i := 190) hf190 ?_))))))
                                  refine JL.pick_t (b := (y41.2.2 == 0)) rfl hc139 (.some rfl rfl rfl hc110) rfl ?_
                                  obtain rfl := Option.some.inj hF
                                  exact hJ138 _ ⟨rfl, rfl, rfl, rfl, rfl⟩
                      · skip
                        refine JL.skip (.bool rfl rfl rfl hc139) rfl ?_
                        refine JL.skip (.bool rfl rfl rfl hc139) rfl ?_
                        refine JL.skip (.bool rfl rfl rfl hc139) rfl ?_
                        refine JL.skip (.bool rfl rfl rfl hc139) rfl ?_
                        refine JL.skip (.no rfl rfl rfl) rfl ?_
                        refine JL.skip (.no rfl rfl rfl) rfl ?_
                        refine JL.skip (.no rfl rfl rfl) rfl ?_
                        refine JL.skip (.bool rfl rfl rfl hc139) rfl ?_
                        refine JL.skip (.bool rfl rfl rfl hc139) rfl ?_
                        refine JL.skip (.no rfl rfl rfl) rfl ?_
                        refine JL.skip (.no rfl rfl rfl) rfl ?_
                        refine JL.skip (.no rfl rfl rfl) rfl ?_
                        refine JL.skip (.bool rfl rfl rfl hc139) rfl ?_
                        refine JL.skip (.bool rfl rfl rfl hc139) rfl ?_
                        refine JL.skip (.no rfl rfl rfl) rfl ?_
                        refine JL.skip (.no rfl rfl rfl) rfl ?_
                        refine JL.skip (.no rfl rfl rfl) rfl ?_
                        refine JL.skip (.bool rfl rfl rfl hc139) rfl ?_
                        refine JL.skip (.bool rfl rfl rfl hc139) rfl ?_
                        refine JL.skip (.no rfl rfl rfl) rfl ?_
                        refine JL.skip (.no rfl rfl rfl) rfl ?_
                        refine JL.skip (.no rfl rfl rfl) rfl ?_
                        refine JL.skip (.bool rfl rfl rfl hc139) rfl ?_
                        refine JL.skip (.bool rfl rfl rfl hc139) rfl ?_
                        refine JL.skip (.no rfl rfl rfl) rfl ?_
                        refine JL.skip (.no rfl rfl rfl) rfl ?_
                        refine JL.skip (.no rfl rfl rfl) rfl ?_
                        refine JL.skip (.bool rfl rfl rfl hc139) rfl ?_
                        refine JL.pick_f (b := (y41.2.2 == 0)) rfl hc139 (.some rfl rfl rfl hc110) rfl ?_
                        obtain rfl := Option.some.inj hF
                        exact hJ138 _ ⟨rfl, rfl, rfl, rfl, rfl⟩
                    · rintro f ⟨hf3, hf5, hf7, hf159, hf191⟩
                      refine (JL.norm (i := 3) hf3 (JL.norm (i := 5) hf5 (JL.norm (i := 7) hf7 (JL.norm (i := 159) hf159 (JL.norm (i := 191) hf191 ?_)))))
                      refine JL.pick_f (b := ((y41.2.2 != y44.2.2) || ((y41.2.2 != 0) && (y41.2.2 != 3)))) rfl hc110 .none rfl ?_
                      obtain rfl := Option.some.inj hF
                      exact hJ109 _ ⟨rfl, rfl, rfl, rfl⟩
                · rintro f ⟨hf3, hf5, hf7, hf192⟩
                  refine (JL.norm (i := 3) hf3 (JL.norm (i := 5) hf5 (JL.norm (i := 7) hf7 (JL.norm (i := 192) hf192 ?_))))
                  refine JL.done hQ ?_
                  refine JQ.go ?_
                  rcases ite_some hF with ⟨hc166, hF⟩ | ⟨hc166, hF⟩
                  · refine JC.cond_t (b := p108) rfl hc166 ?_
                    refine JC.seq ?_
                    refine JC.region (by rfl) ?_
                    intro hQ
                    refine JL.assign .none rfl ?_
                    refine JL.done hQ ?_
                    refine JQ.go ?_
                    refine JC.ret ?_
                    refine JQ.ret_then ?_
                    obtain rfl := Option.some.inj hF
                    exact JQ.outS rfl (.tmp .nil) rfl
                  · refine JC.cond_f (b := p108) rfl hc166 ?_
                    refine JC.skip ?_
                    refine JQ.go ?_
                    refine JC.seq ?_
                    refine JC.region (by rfl) ?_
                    intro hQ
                    refine JL.loadOwn 8 az_26 rfl rfl rfl .none rfl ?_
                    refine JL.fieldAddr fo_28_0 rfl .none rfl ?_
                    refine JL.loadOwn 6 az_3 rfl rfl rfl .none rfl ?_
                    refine JL.fieldAddr fo_28_1 rfl .none rfl ?_
                    refine JL.loadOwn 6 az_3 rfl rfl rfl .none rfl ?_
                    obtain ⟨y167, hy167, hF⟩ := bind_some hF
                    refine JL.callS (c_frames_Binds n H36 f_ f__v0 (SL.mono R_Section_mono (HSub.trans hs22 hs36) hf__0) x_.Section x_.R y167 hy167) rfl en_20 .none rfl ?_
                    refine JL.move .none rfl ?_
                    refine JL.extract rfl rfl .none rfl ?_
                    refine JL.extract rfl rfl .none rfl ?_
                    refine JL.assign .none rfl ?_
                    refine JL.assign .none rfl ?_
                    refine JL.done hQ ?_
                    refine JQ.go ?_
                    refine JC.fresh (fun f => f 3 = .pointer (some ⟨b1, 0, none⟩) ∧ f 5 = .pointer (some ⟨b3, 0, none⟩) ∧ f 7 = .pointer (some ⟨b25, 0, none⟩) ∧ f 15 = .int .i64 y167.1 ∧ f 16 = .int .i64 y167.2) ⟨rfl, rfl, rfl, rfl, rfl⟩ ?_
                    rintro f ⟨hf3, hf5, hf7, hf15, hf16⟩
                    refine (JC.norm (i := 3) hf3 (JC.norm (i := 5) hf5 (JC.norm (i := 7) hf7 (JC.norm (i := 15) hf15 (JC.norm (i := 16) hf16 ?_)))))
                    refine JC.seq ?_
                    refine JC.region (by rfl) ?_
                    intro hQ
                    refine JL.loadOwn 5 az_26 rfl rfl rfl .none rfl ?_
                    refine JL.fieldAddr fo_28_0 rfl .none rfl ?_
                    refine JL.loadOwn 6 az_3 rfl rfl rfl .none rfl ?_
                    refine JL.fieldAddr fo_28_1 rfl .none rfl ?_
                    refine JL.loadOwn 6 az_3 rfl rfl rfl .none rfl ?_
                    obtain ⟨y168, hy168, hF⟩ := bind_some hF
                    refine JL.callS (c_frames_Binds n H36 (Frame.mk (setx y21.Sections y_.Section (Section.mk (Span.mk (w64 (y27.Arm.Low + y_.ArmLow)) (w64 (y27.Arm.High - y_.ArmHigh))) (Span.mk (w64 (y27.Stretch.Low + y_.RodLow)) (w64 (y27.Stretch.High - y_.RodHigh))) y27.Base y27.Gear)) y21.Low y21.High y21.Ease y21.Rod y21.Case) y21_v0 hg37 x_.Section x_.R y168 hy168) rfl en_20 .none rfl ?_
                    refine JL.move .none rfl ?_
                    refine JL.extract rfl rfl .none rfl ?_
                    refine JL.extract rfl rfl .none rfl ?_
                    refine JL.assign .none rfl ?_
                    refine JL.assign .none rfl ?_
                    refine JL.done hQ ?_
                    refine JQ.go ?_
                    refine JC.fresh (fun f => f 3 = .pointer (some ⟨b1, 0, none⟩) ∧ f 5 = .pointer (some ⟨b3, 0, none⟩) ∧ f 7 = .pointer (some ⟨b25, 0, none⟩) ∧ f 15 = .int .i64 y167.1 ∧ f 16 = .int .i64 y167.2 ∧ f 17 = .int .i64 y168.1 ∧ f 18 = .int .i64 y168.2) ⟨rfl, rfl, rfl, rfl, rfl, rfl, rfl⟩ ?_
                    rintro f ⟨hf3, hf5, hf7, hf15, hf16, hf17, hf18⟩
                    refine (JC.norm (i := 3) hf3 (JC.norm (i := 5) hf5 (JC.norm (i := 7) hf7 (JC.norm (i := 15) hf15 (JC.norm (i := 16) hf16 (JC.norm (i := 17) hf17 (JC.norm (i := 18) hf18 ?_)))))))
                    refine JC.seq ?_
                    refine JC.region (by rfl) ?_
                    intro hQ
                    refine JL.loadOwn 8 az_26 rfl rfl rfl .none rfl ?_
                    obtain ⟨y169, hy169, hF⟩ := bind_some hF
                    refine JL.callS (c_frames_Opens n H36 f_ f__v0 (SL.mono R_Section_mono (HSub.trans hs22 hs36) hf__0) y169 hy169) rfl en_30 .none rfl ?_
                    refine JL.move .none rfl ?_
                    refine JL.extract rfl rfl .none rfl ?_
                    refine JL.extract rfl rfl .none rfl ?_
                    refine JL.assign .none rfl ?_
                    refine JL.assign .none rfl ?_
                    refine JL.done hQ ?_
                    refine JQ.go ?_
                    refine JC.seq ?_
                    refine JC.region (by rfl) ?_
                    intro hQ
                    refine JL.loadOwn 5 az_26 rfl rfl rfl .none rfl ?_
                    obtain ⟨y170, hy170, hF⟩ := bind_some hF
                    refine JL.callS (c_frames_Opens n H36 (Frame.mk (setx y21.Sections y_.Section (Section.mk (Span.mk (w64 (y27.Arm.Low + y_.ArmLow)) (w64 (y27.Arm.High - y_.ArmHigh))) (Span.mk (w64 (y27.Stretch.Low + y_.RodLow)) (w64 (y27.Stretch.High - y_.RodHigh))) y27.Base y27.Gear)) y21.Low y21.High y21.Ease y21.Rod y21.Case) y21_v0 hg37 y170 hy170) rfl en_30 .none rfl ?_
                    refine JL.move .none rfl ?_
                    refine JL.extract rfl rfl .none rfl ?_
                    refine JL.extract rfl rfl .none rfl ?_
                    refine JL.assign .none rfl ?_
                    refine JL.assign .none rfl ?_
                    refine JL.done hQ ?_
                    refine JQ.go ?_
                    refine JC.fresh (fun f => f 3 = .pointer (some ⟨b1, 0, none⟩) ∧ f 5 = .pointer (some ⟨b3, 0, none⟩) ∧ f 7 = .pointer (some ⟨b25, 0, none⟩) ∧ f 15 = .int .i64 y167.1 ∧ f 16 = .int .i64 y167.2 ∧ f 17 = .int .i64 y168.1 ∧ f 18 = .int .i64 y168.2 ∧ f 19 = .int .i64 y169.1 ∧ f 20 = .int .i64 y169.2 ∧ f 21 = .int .i64 y170.1 ∧ f 22 = .int .i64 y170.2) ⟨rfl, rfl, rfl, rfl, rfl, rfl, rfl, rfl, rfl, rfl, rfl⟩ ?_
                    rintro f ⟨hf3, hf5, hf7, hf15, hf16, hf17, hf18, hf19, hf20, hf21, hf22⟩
                    refine (JC.norm (i := 3) hf3 (JC.norm (i := 5) hf5 (JC.norm (i := 7) hf7 (JC.norm (i := 15) hf15 (JC.norm (i := 16) hf16 (JC.norm (i := 17) hf17 (JC.norm (i := 18) hf18 (JC.norm (i := 19) hf19 (JC.norm (i := 20) hf20 (JC.norm (i := 21) hf21 (JC.norm (i := 22) hf22 ?_)))))))))))
                    refine JC.seq ?_
                    refine JC.region (by rfl) ?_
                    intro hQ
                    refine JL.loadOwn 8 az_26 rfl rfl rfl .none rfl ?_
                    refine JL.fieldAddr fo_28_0 rfl .none rfl ?_
                    refine JL.loadOwn 6 az_3 rfl rfl rfl .none rfl ?_
                    obtain ⟨y171, hy171, hF⟩ := bind_some hF
                    refine JL.callS (c_frames_Turns n H36 f_ f__v0 (SL.mono R_Section_mono (HSub.trans hs22 hs36) hf__0) x_.Section y171 hy171) rfl en_33 .none rfl ?_
                    refine JL.move .none rfl ?_
                    refine JL.extract rfl rfl .none rfl ?_
                    refine JL.extract rfl rfl .none rfl ?_
                    refine JL.assign .none rfl ?_
                    refine JL.assign .none rfl ?_
                    refine JL.done hQ ?_
                    refine JQ.go ?_
                    refine JC.seq ?_
                    refine JC.region (by rfl) ?_
                    intro hQ
                    refine JL.loadOwn 5 az_26 rfl rfl rfl .none rfl ?_
                    refine JL.fieldAddr fo_28_0 rfl .none rfl ?_
                    refine JL.loadOwn 6 az_3 rfl rfl rfl .none rfl ?_
                    obtain ⟨y172, hy172, hF⟩ := bind_some hF
                    refine JL.callS (c_frames_Turns n H36 (Frame.mk (setx y21.Sections y_.Section (Section.mk (Span.mk (w64 (y27.Arm.Low + y_.ArmLow)) (w64 (y27.Arm.High - y_.ArmHigh))) (Span.mk (w64 (y27.Stretch.Low + y_.RodLow)) (w64 (y27.Stretch.High - y_.RodHigh))) y27.Base y27.Gear)) y21.Low y21.High y21.Ease y21.Rod y21.Case) y21_v0 hg37 x_.Section y172 hy172) rfl en_33 .none rfl ?_
                    refine JL.move .none rfl ?_
                    refine JL.extract rfl rfl .none rfl ?_
                    refine JL.extract rfl rfl .none rfl ?_
                    refine JL.assign .none rfl ?_
                    refine JL.assign .none rfl ?_
                    refine JL.done hQ ?_
                    refine JQ.go ?_
                    refine JC.fresh (fun f => f 3 = .pointer (some ⟨b1, 0, none⟩) ∧ f 7 = .pointer (some ⟨b25, 0, none⟩) ∧ f 15 = .int .i64 y167.1 ∧ f 16 = .int .i64 y167.2 ∧ f 17 = .int .i64 y168.1 ∧ f 18 = .int .i64 y168.2 ∧ f 19 = .int .i64 y169.1 ∧ f 20 = .int .i64 y169.2 ∧ f 21 = .int .i64 y170.1 ∧ f 22 = .int .i64 y170.2 ∧ f 23 = .int .i64 y171.1 ∧ f 24 = .int .i64 y171.2 ∧ f 25 = .int .i64 y172.1 ∧ f 26 = .int .i64 y172.2) ⟨rfl, rfl, rfl, rfl, rfl, rfl, rfl, rfl, rfl, rfl, rfl, rfl, rfl, rfl⟩ ?_
                    rintro f ⟨hf3, hf7, hf15, hf16, hf17, hf18, hf19, hf20, hf21, hf22, hf23, hf24, hf25, hf26⟩
                    refine (JC.norm (i := 3) hf3 (JC.norm (i := 7) hf7 (JC.norm (i := 15) hf15 (JC.norm (i := 16) hf16 (JC.norm (i := 17) hf17 (JC.norm (i := 18) hf18 (JC.norm (i := 19) hf19 (JC.norm (i := 20) hf20 (JC.norm (i := 21) hf21 (JC.norm (i := 22) hf22 (JC.norm (i := 23) hf23 (JC.norm (i := 24) hf24 (JC.norm (i := 25) hf25 (JC.norm (i := 26) hf26 ?_))))))))))))))
                    refine JC.seq ?_
                    refine JC.region (by rfl) ?_
                    intro hQ
                    refine JL.loadOwn 8 az_26 rfl rfl rfl .none rfl ?_
                    obtain ⟨y173, hy173, hF⟩ := bind_some hF
                    refine JL.callS (c_frames_Closes n H36 f_ f__v0 (SL.mono R_Section_mono (HSub.trans hs22 hs36) hf__0) y173 hy173) rfl en_36 .none rfl ?_
                    refine JL.move .none rfl ?_
                    refine JL.extract rfl rfl .none rfl ?_
                    refine JL.extract rfl rfl .none rfl ?_
                    refine JL.assign .none rfl ?_
                    refine JL.assign .none rfl ?_
                    refine JL.done hQ ?_
                    refine JQ.go ?_
                    refine JC.seq ?_
                    refine JC.region (by rfl) ?_
                    intro hQ
                    refine JL.loadOwn 5 az_26 rfl rfl rfl .none rfl ?_
                    obtain ⟨y174, hy174, hF⟩ := bind_some hF
                    refine JL.callS (c_frames_Closes n H36 (Frame.mk (setx y21.Sections y_.Section (Section.mk (Span.mk (w64 (y27.Arm.Low + y_.ArmLow)) (w64 (y27.Arm.High - y_.ArmHigh))) (Span.mk (w64 (y27.Stretch.Low + y_.RodLow)) (w64 (y27.Stretch.High - y_.RodHigh))) y27.Base y27.Gear)) y21.Low y21.High y21.Ease y21.Rod y21.Case) y21_v0 hg37 y174 hy174) rfl en_36 .none rfl ?_
                    refine JL.move .none rfl ?_
                    refine JL.extract rfl rfl .none rfl ?_
                    refine JL.extract rfl rfl .none rfl ?_
                    refine JL.assign .none rfl ?_
                    refine JL.assign .none rfl ?_
                    refine JL.done hQ ?_
                    refine JQ.go ?_
                    refine JC.fresh (fun f => f 3 = .pointer (some ⟨b1, 0, none⟩) ∧ f 7 = .pointer (some ⟨b25, 0, none⟩) ∧ f 15 = .int .i64 y167.1 ∧ f 16 = .int .i64 y167.2 ∧ f 17 = .int .i64 y168.1 ∧ f 18 = .int .i64 y168.2 ∧ f 19 = .int .i64 y169.1 ∧ f 20 = .int .i64 y169.2 ∧ f 21 = .int .i64 y170.1 ∧ f 22 = .int .i64 y170.2 ∧ f 23 = .int .i64 y171.1 ∧ f 24 = .int .i64 y171.2 ∧ f 25 = .int .i64 y172.1 ∧ f 26 = .int .i64 y172.2 ∧ f 27 = .int .i64 y173.1 ∧ f 28 = .int .i64 y173.2 ∧ f 29 = .int .i64 y174.1 ∧ f 30 = .int .i64 y174.2) ⟨rfl, rfl, rfl, rfl, rfl, rfl, rfl, rfl, rfl, rfl, rfl, rfl, rfl, rfl, rfl, rfl, rfl, rfl⟩ ?_
                    rintro f ⟨hf3, hf7, hf15, hf16, hf17, hf18, hf19, hf20, hf21, hf22, hf23, hf24, hf25, hf26, hf27, hf28, hf29, hf30⟩
                    refine (JC.norm (i := 3) hf3 (JC.norm (i := 7) hf7 (JC.norm (i := 15) hf15 (JC.norm (i := 16) hf16 (JC.norm (i := 17) hf17 (JC.norm (i := 18) hf18 (JC.norm (i := 19) hf19 (JC.norm (i := 20) hf20 (JC.norm (i := 21) hf21 (JC.norm (i := 22) hf22 (JC.norm (i := 23) hf23 (JC.norm (i := 24) hf24 (JC.norm (i := 25) hf25 (JC.norm (i := 26) hf26 (JC.norm (i := 27) hf27 (JC.norm (i := 28) hf28 (JC.norm (i := 29) hf29 (JC.norm (i := 30) hf30 ?_))))))))))))))))))
                    refine JC.seq ?_
                    refine JC.seq ?_
                    refine JC.region (by rfl) ?_
                    intro hQ
                    refine JL.move .none rfl ?_
                    refine JL.bin rfl rfl rfl .none rfl ?_
                    refine JL.move .none rfl ?_
                    refine JL.cut 3 (fun f => f 3 = .pointer (some ⟨b1, 0, none⟩) ∧ f 7 = .pointer (some ⟨b25, 0, none⟩) ∧ f 15 = .int .i64 y167.1 ∧ f 17 = .int .i64 y168.1 ∧ f 19 = .int .i64 y169.1 ∧ f 20 = .int .i64 y169.2 ∧ f 21 = .int .i64 y170.1 ∧ f 22 = .int .i64 y170.2 ∧ f 23 = .int .i64 y171.1 ∧ f 24 = .int .i64 y171.2 ∧ f 25 = .int .i64 y172.1 ∧ f 26 = .int .i64 y172.2 ∧ f 27 = .int .i64 y173.1 ∧ f 28 = .int .i64 y173.2 ∧ f 29 = .int .i64 y174.1 ∧ f 30 = .int .i64 y174.2 ∧ f 250 = .bool ((y167.2 != 0) || (y168.2 != 0))) ?_ ?_
                    · intro hJ175
                      rcases bcases (y167.2 != 0) with hc176 | hc176
                      · skip
                        refine JL.skip (.bool rfl rfl rfl hc176) rfl ?_
                        refine JL.skip (.bool rfl rfl rfl hc176) rfl ?_
                        refine JL.pick_t (b := (y167.2 != 0)) rfl hc176 .none rfl ?_
                        exact hJ175 _ ⟨rfl, rfl, rfl, rfl, rfl, rfl, rfl, rfl, rfl, rfl, rfl, rfl, rfl, rfl, rfl, rfl, or_t hc176 rfl⟩
                      · skip
                        refine JL.move (.some rfl rfl rfl hc176) rfl ?_
                        refine JL.bin rfl rfl rfl (.some rfl rfl rfl hc176) rfl ?_
                        refine JL.pick_f (b := (y167.2 != 0)) rfl hc176 .none rfl ?_
                        exact hJ175 _ ⟨rfl, rfl, rfl, rfl, rfl, rfl, rfl, rfl, rfl, rfl, rfl, rfl, rfl, rfl, rfl, rfl, or_f hc176 rfl⟩
                    · rintro f ⟨hf3, hf7, hf15, hf17, hf19, hf20, hf21, hf22, hf23, hf24, hf25, hf26, hf27, hf28, hf29, hf30, hf250⟩
                      refine (JL.norm (i := 3) hf3 (JL.norm (i := 7) hf7 (JL.norm (i := 15) hf15 (JL.norm (i := 17) hf17 (JL.norm (i := 19) hf19 (JL.norm (i := 20) hf20 (JL.norm (i := 21) hf21 (JL.norm (i := 22) hf22 (JL.norm (i := 23) hf23 (JL.norm (i := 24) hf24 (JL.norm (i := 25) hf25 (JL.norm (i := 26) hf26 (JL.norm (i := 27) hf27 (JL.norm (i := 28) hf28 (JL.norm (i := 29) hf29 (JL.norm (i := 30) hf30 (JL.norm (i := 250) hf250 ?_)))))))))))))))))
                      refine JL.move .none rfl ?_
                      refine JL.cut 3 (fun f => f 3 = .pointer (some ⟨b1, 0, none⟩) ∧ f 7 = .pointer (some ⟨b25, 0, none⟩) ∧ f 15 = .int .i64 y167.1 ∧ f 17 = .int .i64 y168.1 ∧ f 19 = .int .i64 y169.1 ∧ f 21 = .int .i64 y170.1 ∧ f 22 = .int .i64 y170.2 ∧ f 23 = .int .i64 y171.1 ∧ f 24 = .int .i64 y171.2 ∧ f 25 = .int .i64 y172.1 ∧ f 26 = .int .i64 y172.2 ∧ f 27 = .int .i64 y173.1 ∧ f 28 = .int .i64 y173.2 ∧ f 29 = .int .i64 y174.1 ∧ f 30 = .int .i64 y174.2 ∧ f 254 = .bool (((y167.2 != 0) || (y168.2 != 0)) || (y169.2 != 0))) ?_ ?_
                      · intro hJ177
                        rcases bcases ((y167.2 != 0) || (y168.2 != 0)) with hc178 | hc178
                        · skip
                          refine JL.skip (.bool rfl rfl rfl hc178) rfl ?_
                          refine JL.skip (.bool rfl rfl rfl hc178) rfl ?_
                          refine JL.pick_t (b := ((y167.2 != 0) || (y168.2 != 0))) rfl hc178 .none rfl ?_
                          exact hJ177 _ ⟨rfl, rfl, rfl, rfl, rfl, rfl, rfl, rfl, rfl, rfl, rfl, rfl, rfl, rfl, rfl, or_t hc178 rfl⟩
                        · skip
                          refine JL.move (.some rfl rfl rfl hc178) rfl ?_
                          refine JL.bin rfl rfl rfl (.some rfl rfl rfl hc178) rfl ?_
                          refine JL.pick_f (b := ((y167.2 != 0) || (y168.2 != 0))) rfl hc178 .none rfl ?_
                          exact hJ177 _ ⟨rfl, rfl, rfl, rfl, rfl, rfl, rfl, rfl, rfl, rfl, rfl, rfl, rfl, rfl, rfl, or_f hc178 rfl⟩
                      · rintro f ⟨hf3, hf7, hf15, hf17, hf19, hf21, hf22, hf23, hf24, hf25, hf26, hf27, hf28, hf29, hf30, hf254⟩
                        refine (JL.norm (i := 3) hf3 (JL.norm (i := 7) hf7 (JL.norm (i := 15) hf15 (JL.norm (i := 17) hf17 (JL.norm (i := 19) hf19 (JL.norm (i := 21) hf21 (JL.norm (i := 22) hf22 (JL.norm (i := 23) hf23 (JL.norm (i := 24) hf24 (JL.norm (i := 25) hf25 (JL.norm (i := 26) hf26 (JL.norm (i := 27) hf27 (JL.norm (i := 28) hf28 (JL.norm (i := 29) hf29 (JL.norm (i := 30) hf30 (JL.norm (i := 254) hf254 ?_))))))))))))))))
                        refine JL.move .none rfl ?_
                        refine JL.cut 3 (fun f => f 3 = .pointer (some ⟨b1, 0, none⟩) ∧ f 7 = .pointer (some ⟨b25, 0, none⟩) ∧ f 15 = .int .i64 y167.1 ∧ f 17 = .int .i64 y168.1 ∧ f 19 = .int .i64 y169.1 ∧ f 21 = .int .i64 y170.1 ∧ f 23 = .int .i64 y171.1 ∧ f 24 = .int .i64 y171.2 ∧ f 25 = .int .i64 y172.1 ∧ f 26 = .int .i64 y172.2 ∧ f 27 = .int .i64 y173.1 ∧ f 28 = .int .i64 y173.2 ∧ f 29 = .int .i64 y174.1 ∧ f 30 = .int .i64 y174.2 ∧ f 258 = .bool ((((y167.2 != 0) || (y168.2 != 0)) || (y169.2 != 0)) || (y170.2 != 0))) ?_ ?_
                        · intro hJ179
                          rcases bcases (((y167.2 != 0) || (y168.2 != 0)) || (y169.2 != 0)) with hc180 | hc180
                          · skip
                            refine JL.skip (.bool rfl rfl rfl hc180) rfl ?_
                            refine JL.skip (.bool rfl rfl rfl hc180) rfl ?_
                            refine JL.pick_t (b := (((y167.2 != 0) || (y168.2 != 0)) || (y169.2 != 0))) rfl hc180 .none rfl ?_
                            exact hJ179 _ ⟨rfl, rfl, rfl, rfl, rfl, rfl, rfl, rfl, rfl, rfl, rfl, rfl, rfl, rfl, or_t hc180 rfl⟩
                          · skip
                            refine JL.move (.some rfl rfl rfl hc180) rfl ?_
                            refine JL.bin rfl rfl rfl (.some rfl rfl rfl hc180) rfl ?_
                            refine JL.pick_f (b := (((y167.2 != 0) || (y168.2 != 0)) || (y169.2 != 0))) rfl hc180 .none rfl ?_
                            exact hJ179 _ ⟨rfl, rfl, rfl, rfl, rfl, rfl, rfl, rfl, rfl, rfl, rfl, rfl, rfl, rfl, or_f hc180 rfl⟩
                        · rintro f ⟨hf3, hf7, hf15, hf17, hf19, hf21, hf23, hf24, hf25, hf26, hf27, hf28, hf29, hf30, hf258⟩
                          refine (JL.norm (i := 3) hf3 (JL.norm (i := 7) hf7 (JL.norm (i := 15) hf15 (JL.norm (i := 17) hf17 (JL.norm (i := 19) hf19 (JL.norm (i := 21) hf21 (JL.norm (i := 23) hf23 (JL.norm (i := 24) hf24 (JL.norm (i := 25) hf25 (JL.norm (i := 26) hf26 (JL.norm (i := 27) hf27 (JL.norm (i := 28) hf28 (JL.norm (i := 29) hf29 (JL.norm (i := 30) hf30 (JL.norm (i := 258) hf258 ?_)))))))))))))))
                          refine JL.move .none rfl ?_
                          refine JL.cut 3 (fun f => f 3 = .pointer (some ⟨b1, 0, none⟩) ∧ f 7 = .pointer (some ⟨b25, 0, none⟩) ∧ f 15 = .int .i64 y167.1 ∧ f 17 = .int .i64 y168.1 ∧ f 19 = .int .i64 y169.1 ∧ f 21 = .int .i64 y170.1 ∧ f 23 = .int .i64 y171.1 ∧ f 25 = .int .i64 y172.1 ∧ f 26 = .int .i64 y172.2 ∧ f 27 = .int .i64 y173.1 ∧ f 28 = .int .i64 y173.2 ∧ f 29 = .int .i64 y174.1 ∧ f 30 = .int .i64 y174.2 ∧ f 262 = .bool (((((y167.2 != 0) || (y168.2 != 0)) || (y169.2 != 0)) || (y170.2 != 0)) || (y171.2 != 0))) ?_ ?_
                          · intro hJ181
                            rcases bcases ((((y167.2 != 0) || (y168.2 != 0)) || (y169.2 != 0)) || (y170.2 != 0)) with hc182 | hc182
                            · skip
                              refine JL.skip (.bool rfl rfl rfl hc182) rfl ?_
                              refine JL.skip (.bool rfl rfl rfl hc182) rfl ?_
                              refine JL.pick_t (b := ((((y167.2 != 0) || (y168.2 != 0)) || (y169.2 != 0)) || (y170.2 != 0))) rfl hc182 .none rfl ?_
                              exact hJ181 _ ⟨rfl, rfl, rfl, rfl, rfl, rfl, rfl, rfl, rfl, rfl, rfl, rfl, rfl, or_t hc182 rfl⟩
                            · skip
                              refine JL.move (.some rfl rfl rfl hc182) rfl ?_
                              refine JL.bin rfl rfl rfl (.some rfl rfl rfl hc182) rfl ?_
                              refine JL.pick_f (b := ((((y167.2 != 0) || (y168.2 != 0)) || (y169.2 != 0)) || (y170.2 != 0))) rfl hc182 .none rfl ?_
                              exact hJ181 _ ⟨rfl, rfl, rfl, rfl, rfl, rfl, rfl, rfl, rfl, rfl, rfl, rfl, rfl, or_f hc182 rfl⟩
                          · rintro f ⟨hf3, hf7, hf15, hf17, hf19, hf21, hf23, hf25, hf26, hf27, hf28, hf29, hf30, hf262⟩
                            refine (JL.norm (i := 3) hf3 (JL.norm (i := 7) hf7 (JL.norm (i := 15) hf15 (JL.norm (i := 17) hf17 (JL.norm (i := 19) hf19 (JL.norm (i := 21) hf21 (JL.norm (i := 23) hf23 (JL.norm (i := 25) hf25 (JL.norm (i := 26) hf26 (JL.norm (i := 27) hf27 (JL.norm (i := 28) hf28 (JL.norm (i := 29) hf29 (JL.norm (i := 30) hf30 (JL.norm (i := 262) hf262 ?_))))))))))))))
                            refine JL.move .none rfl ?_
                            refine JL.cut 3 (fun f => f 3 = .pointer (some ⟨b1, 0, none⟩) ∧ f 7 = .pointer (some ⟨b25, 0, none⟩) ∧ f 15 = .int .i64 y167.1 ∧ f 17 = .int .i64 y168.1 ∧ f 19 = .int .i64 y169.1 ∧ f 21 = .int .i64 y170.1 ∧ f 23 = .int .i64 y171.1 ∧ f 25 = .int .i64 y172.1 ∧ f 27 = .int .i64 y173.1 ∧ f 28 = .int .i64 y173.2 ∧ f 29 = .int .i64 y174.1 ∧ f 30 = .int .i64 y174.2 ∧ f 266 = .bool ((((((y167.2 != 0) || (y168.2 != 0)) || (y169.2 != 0)) || (y170.2 != 0)) || (y171.2 != 0)) || (y172.2 != 0))) ?_ ?_
                            · intro hJ183
                              rcases bcases (((((y167.2 != 0) || (y168.2 != 0)) || (y169.2 != 0)) || (y170.2 != 0)) || (y171.2 != 0)) with hc184 | hc184
                              · skip
                                refine JL.skip (.bool rfl rfl rfl hc184) rfl ?_
                                refine JL.skip (.bool rfl rfl rfl hc184) rfl ?_
                                refine JL.pick_t (b := (((((y167.2 != 0) || (y168.2 != 0)) || (y169.2 != 0)) || (y170.2 != 0)) || (y171.2 != 0))) rfl hc184 .none rfl ?_
                                exact hJ183 _ ⟨rfl, rfl, rfl, rfl, rfl, rfl, rfl, rfl, rfl, rfl, rfl, rfl, or_t hc184 rfl⟩
                              · skip
                                refine JL.move (.some rfl rfl rfl hc184) rfl ?_
                                refine JL.bin rfl rfl rfl (.some rfl rfl rfl hc184) rfl ?_
                                refine JL.pick_f (b := (((((y167.2 != 0) || (y168.2 != 0)) || (y169.2 != 0)) || (y170.2 != 0)) || (y171.2 != 0))) rfl hc184 .none rfl ?_
                                exact hJ183 _ ⟨rfl, rfl, rfl, rfl, rfl, rfl, rfl, rfl, rfl, rfl, rfl, rfl, or_f hc184 rfl⟩
                            · rintro f ⟨hf3, hf7, hf15, hf17, hf19, hf21, hf23, hf25, hf27, hf28, hf29, hf30, hf266⟩
                              refine (JL.norm (i := 3) hf3 (JL.norm (i := 7) hf7 (JL.norm (i := 15) hf15 (JL.norm (i := 17) hf17 (JL.norm (i := 19) hf19 (JL.norm (i := 21) hf21 (JL.norm (i := 23) hf23 (JL.norm (i := 25) hf25 (JL.norm (i := 27) hf27 (JL.norm (i := 28) hf28 (JL.norm (i := 29) hf29 (JL.norm (i := 30) hf30 (JL.norm (i := 266) hf266 ?_)))))))))))))
                              refine JL.move .none rfl ?_
                              refine JL.cut 3 (fun f => f 3 = .pointer (some ⟨b1, 0, none⟩) ∧ f 7 = .pointer (some ⟨b25, 0, none⟩) ∧ f 15 = .int .i64 y167.1 ∧ f 17 = .int .i64 y168.1 ∧ f 19 = .int .i64 y169.1 ∧ f 21 = .int .i64 y170.1 ∧ f 23 = .int .i64 y171.1 ∧ f 25 = .int .i64 y172.1 ∧ f 27 = .int .i64 y173.1 ∧ f 29 = .int .i64 y174.1 ∧ f 30 = .int .i64 y174.2 ∧ f 270 = .bool (((((((y167.2 != 0) || (y168.2 != 0)) || (y169.2 != 0)) || (y170.2 != 0)) || (y171.2 != 0)) || (y172.2 != 0)) || (y173.2 != 0))) ?_ ?_
                              · intro hJ185
                                rcases bcases ((((((y167.2 != 0) || (y168.2 != 0)) || (y169.2 != 0)) || (y170.2 != 0)) || (y171.2 != 0)) || (y172.2 != 0)) with hc186 | hc186
                                · skip
                                  refine JL.skip (.bool rfl rfl rfl hc186) rfl ?_
                                  refine JL.skip (.bool rfl rfl rfl hc186) rfl ?_
                                  refine JL.pick_t (b := ((((((y167.2 != 0) || (y168.2 != 0)) || (y169.2 != 0)) || (y170.2 != 0)) || (y171.2 != 0)) || (y172.2 != 0))) rfl hc186 .none rfl ?_
                                  exact hJ185 _ ⟨rfl, rfl, rfl, rfl, rfl, rfl, rfl, rfl, rfl, rfl, rfl, or_t hc186 rfl⟩
                                · skip
                                  refine JL.move (.some rfl rfl rfl hc186) rfl ?_
                                  refine JL.bin rfl rfl rfl (.some rfl rfl rfl hc186) rfl ?_
                                  refine JL.pick_f (b := ((((((y167.2 != 0) || (y168.2 != 0)) || (y169.2 != 0)) || (y170.2 != 0)) || (y171.2 != 0)) || (y172.2 != 0))) rfl hc186 .none rfl ?_
                                  exact hJ185 _ ⟨rfl, rfl, rfl, rfl, rfl, rfl, rfl, rfl, rfl, rfl, rfl, or_f hc186 rfl⟩
                              · rintro f ⟨hf3, hf7, hf15, hf17, hf19, hf21, hf23, hf25, hf27, hf29, hf30, hf270⟩
                                refine (JL.norm (i := 3) hf3 (JL.norm (i := 7) hf7 (JL.norm (i := 15) hf15 (JL.norm (i := 17) hf17 (JL.norm (i := 19) hf19 (JL.norm (i := 21) hf21 (JL.norm (i := 23) hf23 (JL.norm (i := 25) hf25 (JL.norm (i := 27) hf27 (JL.norm (i := 29) hf29 (JL.norm (i := 30) hf30 (JL.norm (i := 270) hf270 ?_))))))))))))
                                refine JL.move .none rfl ?_
                                refine JL.cut 3 (fun f => f 3 = .pointer (some ⟨b1, 0, none⟩) ∧ f 7 = .pointer (some ⟨b25, 0, none⟩) ∧ f 15 = .int .i64 y167.1 ∧ f 17 = .int .i64 y168.1 ∧ f 19 = .int .i64 y169.1 ∧ f 21 = .int .i64 y170.1 ∧ f 23 = .int .i64 y171.1 ∧ f 25 = .int .i64 y172.1 ∧ f 27 = .int .i64 y173.1 ∧ f 29 = .int .i64 y174.1 ∧ f 274 = .bool ((((((((y167.2 != 0) || (y168.2 != 0)) || (y169.2 != 0)) || (y170.2 != 0)) || (y171.2 != 0)) || (y172.2 != 0)) || (y173.2 != 0)) || (y174.2 != 0))) ?_ ?_
                                · intro hJ187
                                  rcases bcases (((((((y167.2 != 0) || (y168.2 != 0)) || (y169.2 != 0)) || (y170.2 != 0)) || (y171.2 != 0)) || (y172.2 != 0)) || (y173.2 != 0)) with hc188 | hc188
                                  · skip
                                    refine JL.skip (.bool rfl rfl rfl hc188) rfl ?_
                                    refine JL.skip (.bool rfl rfl rfl hc188) rfl ?_
                                    refine JL.pick_t (b := (((((((y167.2 != 0) || (y168.2 != 0)) || (y169.2 != 0)) || (y170.2 != 0)) || (y171.2 != 0)) || (y172.2 != 0)) || (y173.2 != 0))) rfl hc188 .none rfl ?_
                                    exact hJ187 _ ⟨rfl, rfl, rfl, rfl, rfl, rfl, rfl, rfl, rfl, rfl, or_t hc188 rfl⟩
                                  · skip
                                    refine JL.move (.some rfl rfl rfl hc188) rfl ?_
                                    refine JL.bin rfl rfl rfl (.some rfl rfl rfl hc188) rfl ?_
                                    refine JL.pick_f (b := (((((((y167.2 != 0) || (y168.2 != 0)) || (y169.2 != 0)) || (y170.2 != 0)) || (y171.2 != 0)) || (y172.2 != 0)) || (y173.2 != 0))) rfl hc188 .none rfl ?_
                                    exact hJ187 _ ⟨rfl, rfl, rfl, rfl, rfl, rfl, rfl, rfl, rfl, rfl, or_f hc188 rfl⟩
                                · rintro f ⟨hf3, hf7, hf15, hf17, hf19, hf21, hf23, hf25, hf27, hf29, hf274⟩
                                  refine (JL.norm (i := 3) hf3 (JL.norm (i := 7) hf7 (JL.norm (i := 15) hf15 (JL.norm (i := 17) hf17 (JL.norm (i := 19) hf19 (JL.norm (i := 21) hf21 (JL.norm (i := 23) hf23 (JL.norm (i := 25) hf25 (JL.norm (i := 27) hf27 (JL.norm (i := 29) hf29 (JL.norm (i := 274) hf274 ?_)))))))))))
                                  refine JL.move .none rfl ?_
                                  refine JL.cut 8 (fun f => f 3 = .pointer (some ⟨b1, 0, none⟩) ∧ f 7 = .pointer (some ⟨b25, 0, none⟩) ∧ f 19 = .int .i64 y169.1 ∧ f 21 = .int .i64 y170.1 ∧ f 23 = .int .i64 y171.1 ∧ f 25 = .int .i64 y172.1 ∧ f 27 = .int .i64 y173.1 ∧ f 29 = .int .i64 y174.1 ∧ f 283 = .bool (((((((((y167.2 != 0) || (y168.2 != 0)) || (y169.2 != 0)) || (y170.2 != 0)) || (y171.2 != 0)) || (y172.2 != 0)) || (y173.2 != 0)) || (y174.2 != 0)) || ((y167.1 != 3) && (y167.1 != y168.1)))) ?_ ?_
                                  · intro hJ191
                                    rcases bcases ((((((((y167.2 != 0) || (y168.2 != 0)) || (y169.2 != 0)) || (y170.2 != 0)) || (y171.2 != 0)) || (y172.2 != 0)) || (y173.2 != 0)) || (y174.2 != 0)) with hc192 | hc192
                                    · skip
                                      refine JL.skip (.bool rfl rfl rfl hc192) rfl ?_
                                      refine JL.skip (.bool rfl rfl rfl hc192) rfl ?_
                                      refine JL.skip (.bool rfl rfl rfl hc192) rfl ?_
                                      refine JL.skip (.no rfl rfl rfl) rfl ?_
                                      refine JL.skip (.no rfl rfl rfl) rfl ?_
                                      refine JL.skip (.no rfl rfl rfl) rfl ?_
                                      refine JL.skip (.bool rfl rfl rfl hc192) rfl ?_
                                      refine JL.pick_t (b := ((((((((y167.2 != 0) || (y168.2 != 0)) || (y169.2 != 0)) || (y170.2 != 0)) || (y171.2 != 0)) || (y172.2 != 0)) || (y173.2 != 0)) || (y174.2 != 0))) rfl hc192 .none rfl ?_
                                      exact hJ191 _ ⟨rfl, rfl, rfl, rfl, rfl, rfl, rfl, rfl, or_t hc192 rfl⟩
                                    · skip
                                      refine JL.move (.some rfl rfl rfl hc192) rfl ?_
                                      refine JL.bin rfl rfl rfl (.some rfl rfl rfl hc192) rfl ?_
                                      refine JL.move (.some rfl rfl rfl hc192) rfl ?_
                                      refine JL.cut 4 (fun f => f 3 = .pointer (some ⟨b1, 0, none⟩) ∧ f 7 = .pointer (some ⟨b25, 0, none⟩) ∧ f 19 = .int .i64 y169.1 ∧ f 21 = .int .i64 y170.1 ∧ f 23 = .int .i64 y171.1 ∧ f 25 = .int .i64 y172.1 ∧ f 27 = .int .i64 y173.1 ∧ f 29 = .int .i64 y174.1 ∧ f 275 = .bool ((((((((y167.2 != 0) || (y168.2 != 0)) || (y169.2 != 0)) || (y170.2 != 0)) || (y171.2 != 0)) || (y172.2 != 0)) || (y173.2 != 0)) || (y174.2 != 0)) ∧ f 282 = .bool ((y167.1 != 3) && (y167.1 != y168.1))) ?_ ?_
                                      · intro hJ193
                                        rcases bcases (y167.1 != 3) with hc194 | hc194
                                        · skip
                                          refine JL.move (.some rfl rfl rfl hc194) rfl ?_
                                          refine JL.move (.some rfl rfl rfl hc194) rfl ?_
                                          refine JL.bin rfl rfl rfl (.some rfl rfl rfl hc194) rfl ?_
                                          refine JL.pick_t (b := (y167.1 != 3)) rfl hc194 (.some rfl rfl rfl hc192) rfl ?_
                                          exact hJ193 _ ⟨rfl, rfl, rfl, rfl, rfl, rfl, rfl, rfl, rfl, and_t hc194 rfl⟩
                                        · skip
                                          refine JL.skip (.bool rfl rfl rfl hc194) rfl ?_
                                          refine JL.skip (.bool rfl rfl rfl hc194) rfl ?_
                                          refine JL.skip (.bool rfl rfl rfl hc194) rfl ?_
                                          refine JL.pick_f (b := (y167.1 != 3)) rfl hc194 (.some rfl rfl rfl hc192) rfl ?_
                                          exact hJ193 _ ⟨rfl, rfl, rfl, rfl, rfl, rfl, rfl, rfl, rfl, and_f hc194 rfl⟩
                                      · rintro f ⟨hf3, hf7, hf19, hf21, hf23, hf25, hf27, hf29, hf275, hf282⟩
                                        refine (JL.norm (i := 3) hf3 (JL.norm (i := 7) hf7 (JL.norm (i := 19) hf19 (JL.norm (i := 21) hf21 (JL.norm (i := 23) hf23 (JL.norm (i := 25) hf25 (JL.norm (i := 27) hf27 (JL.norm (i := 29) hf29 (JL.norm (i := 275) hf275 (JL.norm (i := 282) hf282 ?_))))))))))
                                        refine JL.pick_f (b := ((((((((y167.2 != 0) || (y168.2 != 0)) || (y169.2 != 0)) || (y170.2 != 0)) || (y171.2 != 0)) || (y172.2 != 0)) || (y173.2 != 0)) || (y174.2 != 0))) rfl hc192 .none rfl ?_
                                        exact hJ191 _ ⟨rfl, rfl, rfl, rfl, rfl, rfl, rfl, rfl, or_f hc192 rfl⟩
                                  · rintro f ⟨hf3, hf7, hf19, hf21, hf23, hf25, hf27, hf29, hf283⟩
                                    refine (JL.norm (i := 3) hf3 (JL.norm (i := 7) hf7 (JL.norm (i := 19) hf19 (JL.norm (i := 21) hf21 (JL.norm (i := 23) hf23 (JL.norm (i := 25) hf25 (JL.norm (i := 27) hf27 (JL.norm (i := 29) hf29 (JL.norm (i := 283) hf283 ?_)))))))))
                                    refine JL.move .none rfl ?_
                                    refine JL.cut 8 (fun f => f 3 = .pointer (some ⟨b1, 0, none⟩) ∧ f 7 = .pointer (some ⟨b25, 0, none⟩) ∧ f 23 = .int .i64 y171.1 ∧ f 25 = .int .i64 y172.1 ∧ f 27 = .int .i64 y173.1 ∧ f 29 = .int .i64 y174.1 ∧ f 292 = .bool ((((((((((y167.2 != 0) || (y168.2 != 0)) || (y169.2 != 0)) || (y170.2 != 0)) || (y171.2 != 0)) || (y172.2 != 0)) || (y173.2 != 0)) || (y174.2 != 0)) || ((y167.1 != 3) && (y167.1 != y168.1))) || ((y169.1 != 3) && (y169.1 != y170.1)))) ?_ ?_
                                    · intro hJ197
                                      rcases bcases (((((((((y167.2 != 0) || (y168.2 != 0)) || (y169.2 != 0)) || (y170.2 != 0)) || (y171.2 != 0)) || (y172.2 != 0)) || (y173.2 != 0)) || (y174.2 != 0)) || ((y167.1 != 3) && (y167.1 != y168.1))) with hc198 | hc198
                                      · skip
                                        refine JL.skip (.bool rfl rfl rfl hc198) rfl ?_
                                        refine JL.skip (.bool rfl rfl rfl hc198) rfl ?_
                                        refine JL.skip (.bool rfl rfl rfl hc198) rfl ?_
                                        refine JL.skip (.no rfl rfl rfl) rfl ?_
                                        refine JL.skip (.no rfl rfl rfl) rfl ?_
                                        refine JL.skip (.no rfl rfl rfl) rfl ?_
                                        refine JL.skip (.bool rfl rfl rfl hc198) rfl ?_
                                        refine JL.pick_t (b := (((((((((y167.2 != 0) || (y168.2 != 0)) || (y169.2 != 0)) || (y170.2 != 0)) || (y171.2 != 0)) || (y172.2 != 0)) || (y173.2 != 0)) || (y174.2 != 0)) || ((y167.1 != 3) && (y167.1 != y168.1)))) rfl hc198 .none rfl ?_
                                        exact hJ197 _ ⟨rfl, rfl, rfl, rfl, rfl, rfl, or_t hc198 rfl⟩
                                      · skip
                                        refine JL.move (.some rfl rfl rfl hc198) rfl ?_
                                        refine JL.bin rfl rfl rfl (.some rfl rfl rfl hc198) rfl ?_
                                        refine JL.move (.some rfl rfl rfl hc198) rfl ?_
                                        refine JL.cut 4 (fun f => f 3 = .pointer (some ⟨b1, 0, none⟩) ∧ f 7 = .pointer (some ⟨b25, 0, none⟩) ∧ f 23 = .int .i64 y171.1 ∧ f 25 = .int .i64 y172.1 ∧ f 27 = .int .i64 y173.1 ∧ f 29 = .int .i64 y174.1 ∧ f 284 = .bool (((((((((y167.2 != 0) || (y168.2 != 0)) || (y169.2 != 0)) || (y170.2 != 0)) || (y171.2 != 0)) || (y172.2 != 0)) || (y173.2 != 0)) || (y174.2 != 0)) || ((y167.1 != 3) && (y167.1 != y168.1))) ∧ f 291 = .bool ((y169.1 != 3) && (y169.1 != y170.1))) ?_ ?_
                                        · intro hJ199
                                          rcases bcases (y169.1 != 3) with hc200 | hc200
                                          · skip
                                            refine JL.move (.some rfl rfl rfl hc200) rfl ?_
                                            refine JL.move (.some rfl rfl rfl hc200) rfl ?_
                                            refine JL.bin rfl rfl rfl (.some rfl rfl rfl hc200) rfl ?_
                                            refine JL.pick_t (b := (y169.1 != 3)) rfl hc200 (.some rfl rfl rfl hc198) rfl ?_
                                            exact hJ199 _ ⟨rfl, rfl, rfl, rfl, rfl, rfl, rfl, and_t hc200 rfl⟩
                                          · skip
                                            refine JL.skip (.bool rfl rfl rfl hc200) rfl ?_
                                            refine JL.skip (.bool rfl rfl rfl hc200) rfl ?_
                                            refine JL.skip (.bool rfl rfl rfl hc200) rfl ?_
                                            refine JL.pick_f (b := (y169.1 != 3)) rfl hc200 (.some rfl rfl rfl hc198) rfl ?_
                                            exact hJ199 _ ⟨rfl, rfl, rfl, rfl, rfl, rfl, rfl, and_f hc200 rfl⟩
                                        · rintro f ⟨hf3, hf7, hf23, hf25, hf27, hf29, hf284, hf291⟩
                                          refine (JL.norm (i := 3) hf3 (JL.norm (i := 7) hf7 (JL.norm (i := 23) hf23 (JL.norm (i := 25) hf25 (JL.norm (i := 27) hf27 (JL.norm (i := 29) hf29 (JL.norm (i := 284) hf284 (JL.norm (i := 291) hf291 ?_))))))))
                                          refine JL.pick_f (b := (((((((((y167.2 != 0) || (y168.2 != 0)) || (y169.2 != 0)) || (y170.2 != 0)) || (y171.2 != 0)) || (y172.2 != 0)) || (y173.2 != 0)) || (y174.2 != 0)) || ((y167.1 != 3) && (y167.1 != y168.1)))) rfl hc198 .none rfl ?_
                                          exact hJ197 _ ⟨rfl, rfl, rfl, rfl, rfl, rfl, or_f hc198 rfl⟩
                                    · rintro f ⟨hf3, hf7, hf23, hf25, hf27, hf29, hf292⟩
                                      refine (JL.norm (i := 3) hf3 (JL.norm (i := 7) hf7 (JL.norm (i := 23) hf23 (JL.norm (i := 25) hf25 (JL.norm (i := 27) hf27 (JL.norm (i := 29) hf29 (JL.norm (i := 292) hf292 ?_)))))))
                                      refine JL.move .none rfl ?_
                                      refine JL.cut 8 (fun f => f 3 = .pointer (some ⟨b1, 0, none⟩) ∧ f 7 = .pointer (some ⟨b25, 0, none⟩) ∧ f 27 = .int .i64 y173.1 ∧ f 29 = .int .i64 y174.1 ∧ f 301 = .bool (((((((((((y167.2 != 0) || (y168.2 != 0)) || (y169.2 != 0)) || (y170.2 != 0)) || (y171.2 != 0)) || (y172.2 != 0)) || (y173.2 != 0)) || (y174.2 != 0)) || ((y167.1 != 3) && (y167.1 != y168.1))) || ((y169.1 != 3) && (y169.1 != y170.1))) || ((y171.1 != 3) && (y171.1 != y172.1)))) ?_ ?_
                                      · intro hJ203
                                        rcases bcases ((((((((((y167.2 != 0) || (y168.2 != 0)) || (y169.2 != 0)) || (y170.2 != 0)) || (y171.2 != 0)) || (y172.2 != 0)) || (y173.2 != 0)) || (y174.2 != 0)) || ((y167.1 != 3) && (y167.1 != y168.1))) || ((y169.1 != 3) && (y169.1 != y170.1))) with hc204 | hc204
                                        · skip
                                          refine JL.skip (.bool rfl rfl rfl hc204) rfl ?_
                                          refine JL.skip (.bool rfl rfl rfl hc204) rfl ?_
                                          refine JL.skip (.bool rfl rfl rfl hc204) rfl ?_
                                          refine JL.skip (.no rfl rfl rfl) rfl ?_
                                          refine JL.skip (.no rfl rfl rfl) rfl ?_
                                          refine JL.skip (.no rfl rfl rfl) rfl ?_
                                          refine JL.skip (.bool rfl rfl rfl hc204) rfl ?_
                                          refine JL.pick_t (b := ((((((((((y167.2 != 0) || (y168.2 != 0)) || (y169.2 != 0)) || (y170.2 != 0)) || (y171.2 != 0)) || (y172.2 != 0)) || (y173.2 != 0)) || (y174.2 != 0)) || ((y167.1 != 3) && (y167.1 != y168.1))) || ((y169.1 != 3) && (y169.1 != y170.1)))) rfl hc204 .none rfl ?_
                                          exact hJ203 _ ⟨rfl, rfl, rfl, rfl, or_t hc204 rfl⟩
                                        · skip
                                          refine JL.move (.some rfl rfl rfl hc204) rfl ?_
                                          refine JL.bin rfl rfl rfl (.some rfl rfl rfl hc204) rfl ?_
                                          refine JL.move (.some rfl rfl rfl hc204) rfl ?_
                                          refine JL.cut 4 (fun f => f 3 = .pointer (some ⟨b1, 0, none⟩) ∧ f 7 = .pointer (some ⟨b25, 0, none⟩) ∧ f 27 = .int .i64 y173.1 ∧ f 29 = .int .i64 y174.1 ∧ f 293 = .bool ((((((((((y167.2 != 0) || (y168.2 != 0)) || (y169.2 != 0)) || (y170.2 != 0)) || (y171.2 != 0)) || (y172.2 != 0)) || (y173.2 != 0)) || (y174.2 != 0)) || ((y167.1 != 3) && (y167.1 != y168.1))) || ((y169.1 != 3) && (y169.1 != y170.1))) ∧ f 300 = .bool ((y171.1 != 3) && (y171.1 != y172.1))) ?_ ?_
                                          · intro hJ205
                                            rcases bcases (y171.1 != 3) with hc206 | hc206
                                            · skip
                                              refine JL.move (.some rfl rfl rfl hc206) rfl ?_
                                              refine JL.move (.some rfl rfl rfl hc206) rfl ?_
                                              refine JL.bin rfl rfl rfl (.some rfl rfl rfl hc206) rfl ?_
                                              refine JL.pick_t (b := (y171.1 != 3)) rfl hc206 (.some rfl rfl rfl hc204) rfl ?_
                                              exact hJ205 _ ⟨rfl, rfl, rfl, rfl, rfl, and_t hc206 rfl⟩
                                            · skip
                                              refine JL.skip (.bool rfl rfl rfl hc206) rfl ?_
                                              refine JL.skip (.bool rfl rfl rfl hc206) rfl ?_
                                              refine JL.skip (.bool rfl rfl rfl hc206) rfl ?_
                                              refine JL.pick_f (b := (y171.1 != 3)) rfl hc206 (.some rfl rfl rfl hc204) rfl ?_
                                              exact hJ205 _ ⟨rfl, rfl, rfl, rfl, rfl, and_f hc206 rfl⟩
                                          · rintro f ⟨hf3, hf7, hf27, hf29, hf293, hf300⟩
                                            refine (JL.norm (i := 3) hf3 (JL.norm (i := 7) hf7 (JL.norm (i := 27) hf27 (JL.norm (i := 29) hf29 (JL.norm (i := 293) hf293 (JL.norm (i := 300) hf300 ?_))))))
                                            refine JL.pick_f (b := ((((((((((y167.2 != 0) || (y168.2 != 0)) || (y169.2 != 0)) || (y170.2 != 0)) || (y171.2 != 0)) || (y172.2 != 0)) || (y173.2 != 0)) || (y174.2 != 0)) || ((y167.1 != 3) && (y167.1 != y168.1))) || ((y169.1 != 3) && (y169.1 != y170.1)))) rfl hc204 .none rfl ?_
                                            exact hJ203 _ ⟨rfl, rfl, rfl, rfl, or_f hc204 rfl⟩
                                      · rintro f ⟨hf3, hf7, hf27, hf29, hf301⟩
                                        refine (JL.norm (i := 3) hf3 (JL.norm (i := 7) hf7 (JL.norm (i := 27) hf27 (JL.norm (i := 29) hf29 (JL.norm (i := 301) hf301 ?_)))))
                                        refine JL.move .none rfl ?_
                                        refine JL.cut 8 (fun f => f 3 = .pointer (some ⟨b1, 0, none⟩) ∧ f 7 = .pointer (some ⟨b25, 0, none⟩) ∧ f 310 = .bool ((((((((((((y167.2 != 0) || (y168.2 != 0)) || (y169.2 != 0)) || (y170.2 != 0)) || (y171.2 != 0)) || (y172.2 != 0)) || (y173.2 != 0)) || (y174.2 != 0)) || ((y167.1 != 3) && (y167.1 != y168.1))) || ((y169.1 != 3) && (y169.1 != y170.1))) || ((y171.1 != 3) && (y171.1 != y172.1))) || ((y173.1 != 3) && (y173.1 != y174.1)))) ?_ ?_
                                        · intro hJ209
                                          rcases bcases (((((((((((y167.2 != 0) || (y168.2 != 0)) || (y169.2 != 0)) || (y170.2 != 0)) || (y171.2 != 0)) || (y172.2 != 0)) || (y173.2 != 0)) || (y174.2 != 0)) || ((y167.1 != 3) && (y167.1 != y168.1))) || ((y169.1 != 3) && (y169.1 != y170.1))) || ((y171.1 != 3) && (y171.1 != y172.1))) with hc210 | hc210
                                          · skip
                                            refine JL.skip (.bool rfl rfl rfl hc210) rfl ?_
                                            refine JL.skip (.bool rfl rfl rfl hc210) rfl ?_
                                            refine JL.skip (.bool rfl rfl rfl hc210) rfl ?_
                                            refine JL.skip (.no rfl rfl rfl) rfl ?_
                                            refine JL.skip (.no rfl rfl rfl) rfl ?_
                                            refine JL.skip (.no rfl rfl rfl) rfl ?_
                                            refine JL.skip (.bool rfl rfl rfl hc210) rfl ?_
                                            refine JL.pick_t (b := (((((((((((y167.2 != 0) || (y168.2 != 0)) || (y169.2 != 0)) || (y170.2 != 0)) || (y171.2 != 0)) || (y172.2 != 0)) || (y173.2 != 0)) || (y174.2 != 0)) || ((y167.1 != 3) && (y167.1 != y168.1))) || ((y169.1 != 3) && (y169.1 != y170.1))) || ((y171.1 != 3) && (y171.1 != y172.1)))) rfl hc210 .none rfl ?_
                                            exact hJ209 _ ⟨rfl, rfl, or_t hc210 rfl⟩
                                          · skip
                                            refine JL.move (.some rfl rfl rfl hc210) rfl ?_
                                            refine JL.bin rfl rfl rfl (.some rfl rfl rfl hc210) rfl ?_
                                            refine JL.move (.some rfl rfl rfl hc210) rfl ?_
                                            refine JL.cut 4 (fun f => f 3 = .pointer (some ⟨b1, 0, none⟩) ∧ f 7 = .pointer (some ⟨b25, 0, none⟩) ∧ f 302 = .bool (((((((((((y167.2 != 0) || (y168.2 != 0)) || (y169.2 != 0)) || (y170.2 != 0)) || (y171.2 != 0)) || (y172.2 != 0)) || (y173.2 != 0)) || (y174.2 != 0)) || ((y167.1 != 3) && (y167.1 != y168.1))) || ((y169.1 != 3) && (y169.1 != y170.1))) || ((y171.1 != 3) && (y171.1 != y172.1))) ∧ f 309 = .bool ((y173.1 != 3) && (y173.1 != y174.1))) ?_ ?_
                                            · intro hJ211
                                              rcases bcases (y173.1 != 3) with hc212 | hc212
                                              · skip
                                                refine JL.move (.some rfl rfl rfl hc212) rfl ?_
                                                refine JL.move (.some rfl rfl rfl hc212) rfl ?_
                                                refine JL.bin rfl rfl rfl (.some rfl rfl rfl hc212) rfl ?_
                                                refine JL.pick_t (b := (y173.1 != 3)) rfl hc212 (.some rfl rfl rfl hc210) rfl ?_
                                                exact hJ211 _ ⟨rfl, rfl, rfl, and_t hc212 rfl⟩
                                              · skip
                                                refine JL.skip (.bool rfl rfl rfl hc212) rfl ?_
                                                refine JL.skip (.bool rfl rfl rfl hc212) rfl ?_
                                                refine JL.skip (.bool rfl rfl rfl hc212) rfl ?_
                                                refine JL.pick_f (b := (y173.1 != 3)) rfl hc212 (.some rfl rfl rfl hc210) rfl ?_
                                                exact hJ211 _ ⟨rfl, rfl, rfl, and_f hc212 rfl⟩
                                            · rintro f ⟨hf3, hf7, hf302, hf309⟩
                                              refine (JL.norm (i := 3) hf3 (JL.norm (i := 7) hf7 (JL.norm (i := 302) hf302 (JL.norm (i := 309) hf309 ?_))))
                                              refine JL.pick_f (b := (((((((((((y167.2 != 0) || (y168.2 != 0)) || (y169.2 != 0)) || (y170.2 != 0)) || (y171.2 != 0)) || (y172.2 != 0)) || (y173.2 != 0)) || (y174.2 != 0)) || ((y167.1 != 3) && (y167.1 != y168.1))) || ((y169.1 != 3) && (y169.1 != y170.1))) || ((y171.1 != 3) && (y171.1 != y172.1)))) rfl hc210 .none rfl ?_
                                              exact hJ209 _ ⟨rfl, rfl, or_f hc210 rfl⟩
                                        · rintro f ⟨hf3, hf7, hf310⟩
                                          refine (JL.norm (i := 3) hf3 (JL.norm (i := 7) hf7 (JL.norm (i := 310) hf310 ?_)))
                                          refine JL.done hQ ?_
                                          refine JQ.go ?_
                                          rcases ite_some hF with ⟨hc213, hF⟩ | ⟨hc213, hF⟩
                                          · refine JC.cond_t (b := ((((((((((((y167.2 != 0) || (y168.2 != 0)) || (y169.2 != 0)) || (y170.2 != 0)) || (y171.2 != 0)) || (y172.2 != 0)) || (y173.2 != 0)) || (y174.2 != 0)) || ((y167.1 != 3) && (y167.1 != y168.1))) || ((y169.1 != 3) && (y169.1 != y170.1))) || ((y171.1 != 3) && (y171.1 != y172.1))) || ((y173.1 != 3) && (y173.1 != y174.1)))) rfl hc213 ?_
                                            refine JC.seq ?_
                                            refine JC.region (by rfl) ?_
                                            intro hQ
                                            refine JL.assign .none rfl ?_
                                            refine JL.done hQ ?_
                                            refine JQ.go ?_
                                            refine JC.ret ?_
                                            refine JQ.ret_then ?_
                                            obtain rfl := Option.some.inj hF
                                            exact JQ.outS rfl (.tmp .nil) rfl
                                          · refine JC.cond_f (b := ((((((((((((y167.2 != 0) || (y168.2 != 0)) || (y169.2 != 0)) || (y170.2 != 0)) || (y171.2 != 0)) || (y172.2 != 0)) || (y173.2 != 0)) || (y174.2 != 0)) || ((y167.1 != 3) && (y167.1 != y168.1))) || ((y169.1 != 3) && (y169.1 != y170.1))) || ((y171.1 != 3) && (y171.1 != y172.1))) || ((y173.1 != 3) && (y173.1 != y174.1)))) rfl hc213 ?_
                                            refine JC.skip ?_
                                            refine JQ.go ?_
                                            refine JC.seq ?_
                                            refine JC.region (by rfl) ?_
                                            intro hQ
                                            refine JL.loadOwn 8 az_26 rfl rfl rfl .none rfl ?_
                                            obtain ⟨y214, hy214, hF⟩ := bind_some hF
                                            refine JL.callS (c_frames_First n H36 f_ f__v0 (SL.mono R_Section_mono (HSub.trans hs22 hs36) hf__0) y214 hy214) rfl en_28 .none rfl ?_
                                            refine JL.move .none rfl ?_
                                            refine JL.extract rfl rfl .none rfl ?_
                                            refine JL.extract rfl rfl .none rfl ?_
                                            refine JL.extract rfl rfl .none rfl ?_
                                            refine JL.assign .none rfl ?_
                                            refine JL.assign .none rfl ?_
                                            refine JL.assign .none rfl ?_
                                            refine JL.done hQ ?_
                                            refine JQ.go ?_
                                            refine JC.seq ?_
                                            refine JC.region (by rfl) ?_
                                            intro hQ
                                            refine JL.loadOwn 5 az_26 rfl rfl rfl .none rfl ?_
                                            obtain ⟨y215, hy215, hF⟩ := bind_some hF
                                            refine JL.callS (c_frames_First n H36 (Frame.mk (setx y21.Sections y_.Section (Section.mk (Span.mk (w64 (y27.Arm.Low + y_.ArmLow)) (w64 (y27.Arm.High - y_.ArmHigh))) (Span.mk (w64 (y27.Stretch.Low + y_.RodLow)) (w64 (y27.Stretch.High - y_.RodHigh))) y27.Base y27.Gear)) y21.Low y21.High y21.Ease y21.Rod y21.Case) y21_v0 hg37 y215 hy215) rfl en_28 .none rfl ?_
                                            refine JL.move .none rfl ?_
                                            refine JL.extract rfl rfl .none rfl ?_
                                            refine JL.extract rfl rfl .none rfl ?_
                                            refine JL.extract rfl rfl .none rfl ?_
                                            refine JL.assign .none rfl ?_
                                            refine JL.assign .none rfl ?_
                                            refine JL.assign .none rfl ?_
                                            refine JL.done hQ ?_
                                            refine JQ.go ?_
                                            refine JC.fresh (fun f => f 32 = .int .i64 y214.2.1 ∧ f 33 = .int .i64 y214.2.2 ∧ f 35 = .int .i64 y215.2.1 ∧ f 36 = .int .i64 y215.2.2) ⟨rfl, rfl, rfl, rfl⟩ ?_
                                            rintro f ⟨hf32, hf33, hf35, hf36⟩
                                            refine (JC.norm (i := 32) hf32 (JC.norm (i := 33) hf33 (JC.norm (i := 35) hf35 (JC.norm (i := 36) hf36 ?_))))
                                            refine JC.seq ?_
                                            refine JC.region (by rfl) ?_
                                            intro hQ
                                            refine JL.move .none rfl ?_
                                            refine JL.bin rfl rfl rfl .none rfl ?_
                                            refine JL.move .none rfl ?_
                                            refine JL.cut 8 (fun f => f 333 = .bool ((y215.2.2 != 0) || ((y214.2.2 == 0) && (decide (y215.2.1 ≤ y214.2.1))))) ?_ ?_
                                            · intro hJ218
                                              rcases bcases (y215.2.2 != 0) with hc219 | hc219
                                              · skip
                                                refine JL.skip (.bool rfl rfl rfl hc219) rfl ?_
                                                refine JL.skip (.bool rfl rfl rfl hc219) rfl ?_
                                                refine JL.skip (.bool rfl rfl rfl hc219) rfl ?_
                                                refine JL.skip (.no rfl rfl rfl) rfl ?_
                                                refine JL.skip (.no rfl rfl rfl) rfl ?_
                                                refine JL.skip (.no rfl rfl rfl) rfl ?_
                                                refine JL.skip (.bool rfl rfl rfl hc219) rfl ?_
                                                refine JL.pick_t (b := (y215.2.2 != 0)) rfl hc219 .none rfl ?_
                                                exact hJ218 _ (or_t hc219 rfl)
                                              · skip
                                                refine JL.move (.some rfl rfl rfl hc219) rfl ?_
                                                refine JL.bin rfl rfl rfl (.some rfl rfl rfl hc219) rfl ?_
                                                refine JL.move (.some rfl rfl rfl hc219) rfl ?_
                                                refine JL.cut 4 (fun f => f 325 = .bool (y215.2.2 != 0) ∧ f 332 = .bool ((y214.2.2 == 0) && (decide (y215.2.1 ≤ y214.2.1)))) ?_ ?_
                                                · intro hJ220
                                                  rcases bcases (y214.2.2 == 0) with hc221 | hc221
                                                  · skip
                                                    refine JL.move (.some rfl rfl rfl hc221) rfl ?_
                                                    refine JL.move (.some rfl rfl rfl hc221) rfl ?_
                                                    refine JL.bin rfl rfl rfl (.some rfl rfl rfl hc221) rfl ?_
                                                    refine JL.pick_t (b := (y214.2.2 == 0)) rfl hc221 (.some rfl rfl rfl hc219) rfl ?_
                                                    exact hJ220 _ ⟨rfl, and_t hc221 rfl⟩
                                                  · skip
                                                    refine JL.skip (.bool rfl rfl rfl hc221) rfl ?_
                                                    refine JL.skip (.bool rfl rfl rfl hc221) rfl ?_
                                                    refine JL.skip (.bool rfl rfl rfl hc221) rfl ?_
                                                    refine JL.pick_f (b := (y214.2.2 == 0)) rfl hc221 (.some rfl rfl rfl hc219) rfl ?_
                                                    exact hJ220 _ ⟨rfl, and_f hc221 rfl⟩
                                                · rintro f ⟨hf325, hf332⟩
                                                  refine (JL.norm (i := 325) hf325 (JL.norm (i := 332) hf332 ?_))
                                                  refine JL.pick_f (b := (y215.2.2 != 0)) rfl hc219 .none rfl ?_
                                                  exact hJ218 _ (or_f hc219 rfl)
                                            · rintro f hf333
                                              refine (JL.norm (i := 333) hf333 ?_)
                                              refine JL.move .none rfl ?_
                                              obtain ⟨p223, hp223, hF⟩ := bind_some hF
                                              refine JL.cut 2 (fun f => f 336 = .bool p223) ?_ ?_
                                              · intro hJ224
                                                rcases ite_some hp223 with ⟨hc225, hF⟩ | ⟨hc225, hF⟩
                                                · skip
                                                  obtain ⟨y226, hy226, hF⟩ := bind_some hF
                                                  refine JL.callS (c_law01_works n H36 y226 hy226) rfl en_12 (.some rfl rfl rfl hc225) rfl ?_
                                                  refine JL.pick_t (b := ((y215.2.2 != 0) || ((y214.2.2 == 0) && (decide (y215.2.1 ≤ y214.2.1))))) rfl hc225 .none rfl ?_
                                                  obtain rfl := Option.some.inj hF
                                                  exact hJ224 _ (rfl)
                                                · skip
                                                  refine JL.skip (.bool rfl rfl rfl hc225) rfl ?_
                                                  refine JL.pick_f (b := ((y215.2.2 != 0) || ((y214.2.2 == 0) && (decide (y215.2.1 ≤ y214.2.1))))) rfl hc225 .none rfl ?_
                                                  obtain rfl := Option.some.inj hF
                                                  exact hJ224 _ (rfl)
                                              · rintro f hf336
                                                refine (JL.norm (i := 336) hf336 ?_)
                                                refine JL.assign .none rfl ?_
                                                refine JL.done hQ ?_
                                                refine JQ.go ?_
                                                refine JC.ret ?_
                                                obtain rfl := Option.some.inj hF
                                                exact JQ.outS rfl (.tmp .nil) rfl

end Go.Proofs.Ytmgnhaibbeinbaa
