/-
  Printed by a program: functions of the translation as plain functions, and their contracts.
-/
import Derived.Test.YtmgnhaibbeinbaaGenK11
namespace Go.Proofs.Ytmgnhaibbeinbaa
open Go Go.RowKit Go.Dec
set_option linter.unusedVariables false
-- 7 ferrule/ferrulelaw01.FramesFolds
def F_law01_FramesFolds (n : Nat) (f_ : Frame) (x_ : law01_Ask) : Option Bool :=
  (F_law01_ready n f_).bind fun y3 => (if (!y3) = true then (some true) else ((F_law01_isAsk n f_ x_).bind fun y8 => some (!y8)) : Option Bool).bind fun p5 => if p5 = true then ((F_law01_works n).bind fun y10 => some y10) else ((F_frames_Opens n f_).bind fun y11 => (F_frames_First n f_).bind fun y12 => (F_frames_Blame n f_).bind fun y13 => if ((((((y11.2 != 0) || ((y12.2.2 != 0) && (y12.2.2 != 3))) || (y13.2 != 0)) || ((y11.1 == 1) != (y12.2.2 == 3))) || ((y11.1 == 2) != (decide (0 < (y13.1.length : Int))))) || (decide ((f_.Sections.length : Int) < (y13.1.length : Int)))) = true then (some false) else ((F_ref01_Copy n f_).bind fun y31 => (slc y31.Sections 0 (w64 (x_.Section + 1))).bind fun y35 => (F_frames_Binds n f_ x_.Section x_.R).bind fun y38 => (F_frames_Binds n (Frame.mk y35 y31.Low y31.High y31.Ease y31.Rod y31.Case) x_.Section x_.R).bind fun y39 => (F_frames_Turns n f_ x_.Section).bind fun y40 => (F_frames_Turns n (Frame.mk y35 y31.Low y31.High y31.Ease y31.Rod y31.Case) x_.Section).bind fun y41 => (F_frames_Distance n f_ x_.Section x_.R).bind fun y42 => if (((((((y38.2 != 0) || (y39.2 != 0)) || (y40.2 != 0)) || (y41.2 != 0)) || (y42.2 != 0)) || (y38.1 != y39.1)) || (y40.1 != y41.1)) = true then (some false) else (if (x_.Section == 0) = true then ((if (y42.1 == x_.R) = true then ((F_law01_works n).bind fun y61 => some y61) else (some false) : Option Bool).bind fun p58 => some p58) else ((geti f_.Sections x_.Section).bind fun y62 => (F_frames_Distance n f_ (w64 (x_.Section - 1)) x_.R).bind fun y68 => (if (((y68.2 == 0) && (decide (0 ≤ y68.1))) && (decide (y68.1 ≤ 20000))) = true then ((nz y62.Gear.Den).bind fun _ => some (y42.1 == (w64 (y62.Base + (w64 ((w64 (y68.1 * y62.Gear.Num)).tdiv y62.Gear.Den)))))) else (some false) : Option Bool).bind fun p88 => (if p88 = true then ((F_law01_works n).bind fun y96 => some y96) else (some false) : Option Bool).bind fun p93 => some p93))))
set_option maxRecDepth 100000 in
set_option maxHeartbeats 40000000 in
theorem c_law01_FramesFolds (n : Nat) (H : Hp) (f_ : Frame) (f__v0 : Value) (hf__0 : SL H 7 R_Section f__v0 f_.Sections) (x_ : law01_Ask) (y : Bool) (hF : F_law01_FramesFolds n f_ x_ = some y) : SC Try.prog 7 [.agg [f__v0, .int .i64 f_.Low, .int .i64 f_.High, .int .i64 f_.Ease.Num, .int .i64 f_.Ease.Den, .int .i64 f_.Rod, .int .i64 f_.Case].toArray, .agg [.int .i64 x_.Section, .int .i64 x_.R].toArray] (.bool y) H := by
  rw [F_law01_FramesFolds] at hF
  refine SC.of (N := 222) Try.func7 rfl rfl rfl fun w => ?_
  refine JC.seq ?_
  refine JC.region (by rfl) ?_
  intro hQ
  refine JL.box (cs := [f__v0, .int .i64 f_.Low, .int .i64 f_.High, .int .i64 f_.Ease.Num, .int .i64 f_.Ease.Den, .int .i64 f_.Rod, .int .i64 f_.Case]) rfl .none rfl ?_
  intro b1
  refine JL.box (cs := [.int .i64 x_.Section, .int .i64 x_.R]) rfl .none rfl ?_
  intro b2
  refine JL.assign .none rfl ?_
  refine JL.done hQ ?_
  refine JQ.go ?_
  refine JC.seq ?_
  refine JC.seq ?_
  refine JC.region (by rfl) ?_
  intro hQ
  refine JL.loadOwn 1 az_26 rfl rfl rfl .none rfl ?_
  obtain ⟨y3, hy3, hF⟩ := bind_some hF
  refine JL.callS (c_law01_ready n H f_ f__v0 hf__0 y3 hy3) rfl en_23 .none rfl ?_
  refine JL.not rfl .none rfl ?_
  refine JL.move .none rfl ?_
  obtain ⟨p5, hp5, hF⟩ := bind_some hF
  refine JL.cut 5 (fun f => f 2 = .pointer (some ⟨b1, 0, none⟩) ∧ f 3 = .pointer (some ⟨b2, 0, none⟩) ∧ f 34 = .bool p5) ?_ ?_
  · intro hJ6
    rcases ite_some hp5 with ⟨hc7, hF⟩ | ⟨hc7, hF⟩
    · skip
      refine JL.skip (.bool rfl rfl rfl hc7) rfl ?_
      refine JL.skip (.bool rfl rfl rfl hc7) rfl ?_
      refine JL.skip (.bool rfl rfl rfl hc7) rfl ?_
      refine JL.skip (.bool rfl rfl rfl hc7) rfl ?_
      refine JL.pick_t (b := (!y3)) rfl hc7 .none rfl ?_
      obtain rfl := Option.some.inj hF
      exact hJ6 _ ⟨rfl, rfl, rfl⟩
    · skip
      refine JL.loadOwn 1 az_26 rfl rfl rfl (.some rfl rfl rfl hc7) rfl ?_
      refine JL.loadOwn 0 az_28 rfl rfl rfl (.some rfl rfl rfl hc7) rfl ?_
      obtain ⟨y8, hy8, hF⟩ := bind_some hF
      refine JL.callS (c_law01_isAsk n H f_ f__v0 hf__0 x_ y8 hy8) rfl en_24 (.some rfl rfl rfl hc7) rfl ?_
      refine JL.not rfl (.some rfl rfl rfl hc7) rfl ?_
      refine JL.pick_f (b := (!y3)) rfl hc7 .none rfl ?_
      obtain rfl := Option.some.inj hF
      exact hJ6 _ ⟨rfl, rfl, rfl⟩
  · rintro f ⟨hf2, hf3, hf34⟩
    refine (JL.norm (i := 2) hf2 (JL.norm (i := 3) hf3 (JL.norm (i := 34) hf34 ?_)))
    refine JL.done hQ ?_
    refine JQ.go ?_
    rcases ite_some hF with ⟨hc9, hF⟩ | ⟨hc9, hF⟩
    · refine JC.cond_t (b := p5) rfl hc9 ?_
      refine JC.seq ?_
      refine JC.region (by rfl) ?_
      intro hQ
      obtain ⟨y10, hy10, hF⟩ := bind_some hF
      refine JL.callS (c_law01_works n H y10 hy10) rfl en_12 .none rfl ?_
      refine JL.assign .none rfl ?_
      refine JL.done hQ ?_
      refine JQ.go ?_
      refine JC.ret ?_
      refine JQ.ret_then ?_
      obtain rfl := Option.some.inj hF
      exact JQ.outS rfl (.tmp .nil) rfl
    · refine JC.cond_f (b := p5) rfl hc9 ?_
      refine JC.skip ?_
      refine JQ.go ?_
      refine JC.seq ?_
      refine JC.region (by rfl) ?_
      intro hQ
      refine JL.loadOwn 1 az_26 rfl rfl rfl .none rfl ?_
      obtain ⟨y11, hy11, hF⟩ := bind_some hF
      refine JL.callS (c_frames_Opens n H f_ f__v0 hf__0 y11 hy11) rfl en_30 .none rfl ?_
      refine JL.move .none rfl ?_
      refine JL.extract rfl rfl .none rfl ?_
      refine JL.extract rfl rfl .none rfl ?_
      refine JL.assign .none rfl ?_
      refine JL.assign .none rfl ?_
      refine JL.done hQ ?_
      refine JQ.go ?_
      refine JC.seq ?_
      refine JC.region (by rfl) ?_
      intro hQ
      refine JL.loadOwn 1 az_26 rfl rfl rfl .none rfl ?_
      obtain ⟨y12, hy12, hF⟩ := bind_some hF
      refine JL.callS (c_frames_First n H f_ f__v0 hf__0 y12 hy12) rfl en_28 .none rfl ?_
      refine JL.move .none rfl ?_
      refine JL.extract rfl rfl .none rfl ?_
      refine JL.extract rfl rfl .none rfl ?_
      refine JL.extract rfl rfl .none rfl ?_
      refine JL.assign .none rfl ?_
      refine JL.assign .none rfl ?_
      refine JL.assign .none rfl ?_
      refine JL.done hQ ?_
      refine JQ.go ?_
      refine JC.fresh (fun f => f 2 = .pointer (some ⟨b1, 0, none⟩) ∧ f 3 = .pointer (some ⟨b2, 0, none⟩) ∧ f 5 = .int .i64 y11.1 ∧ f 6 = .int .i64 y11.2 ∧ f 9 = .int .i64 y12.2.2) ⟨rfl, rfl, rfl, rfl, rfl⟩ ?_
      rintro f ⟨hf2, hf3, hf5, hf6, hf9⟩
      refine (JC.norm (i := 2) hf2 (JC.norm (i := 3) hf3 (JC.norm (i := 5) hf5 (JC.norm (i := 6) hf6 (JC.norm (i := 9) hf9 ?_)))))
      refine JC.seq ?_
      refine JC.region (by rfl) ?_
      intro hQ
      refine JL.loadOwn 1 az_26 rfl rfl rfl .none rfl ?_
      obtain ⟨y13, hy13, hF⟩ := bind_some hF
      refine JL.callH (c_frames_Blame n H f_ f__v0 hf__0 y13 hy13) rfl en_32 .none rfl ?_
      rintro H14 vv15 hs14 ⟨y13a_v0, rfl, hy13a_0⟩
      refine JL.move .none rfl ?_
      refine JL.extract rfl rfl .none rfl ?_
      refine JL.extract rfl rfl .none rfl ?_
      refine JL.assign .none rfl ?_
      refine JL.assign .none rfl ?_
      refine JL.done hQ ?_
      refine JQ.go ?_
      refine JC.seq ?_
      refine JC.seq ?_
      refine JC.region (by rfl) ?_
      intro hQ
      refine JL.move .none rfl ?_
      refine JL.bin rfl rfl rfl .none rfl ?_
      refine JL.move .none rfl ?_
      refine JL.cut 7 (fun f => f 2 = .pointer (some ⟨b1, 0, none⟩) ∧ f 3 = .pointer (some ⟨b2, 0, none⟩) ∧ f 5 = .int .i64 y11.1 ∧ f 9 = .int .i64 y12.2.2 ∧ f 10 = y13a_v0 ∧ f 11 = .int .i64 y13.2 ∧ f 61 = .bool ((y11.2 != 0) || ((y12.2.2 != 0) && (y12.2.2 != 3)))) ?_ ?_
      · intro hJ18
        rcases bcases (y11.2 != 0) with hc19 | hc19
        · skip
          refine JL.skip (.bool rfl rfl rfl hc19) rfl ?_
          refine JL.skip (.bool rfl rfl rfl hc19) rfl ?_
          refine JL.skip (.bool rfl rfl rfl hc19) rfl ?_
          refine JL.skip (.no rfl rfl rfl) rfl ?_
          refine JL.skip (.no rfl rfl rfl) rfl ?_
          refine JL.skip (.bool rfl rfl rfl hc19) rfl ?_
          refine JL.pick_t (b := (y11.2 != 0)) rfl hc19 .none rfl ?_
          exact hJ18 _ ⟨rfl, rfl, rfl, rfl, rfl, rfl, or_t hc19 rfl⟩
        · skip
          refine JL.move (.some rfl rfl rfl hc19) rfl ?_
          refine JL.bin rfl rfl rfl (.some rfl rfl rfl hc19) rfl ?_
          refine JL.move (.some rfl rfl rfl hc19) rfl ?_
          refine JL.cut 3 (fun f => f 2 = .pointer (some ⟨b1, 0, none⟩) ∧ f 3 = .pointer (some ⟨b2, 0, none⟩) ∧ f 5 = .int .i64 y11.1 ∧ f 9 = .int .i64 y12.2.2 ∧ f 10 = y13a_v0 ∧ f 11 = .int .i64 y13.2 ∧ f 54 = .bool (y11.2 != 0) ∧ f 60 = .bool ((y12.2.2 != 0) && (y12.2.2 != 3))) ?_ ?_
          · intro hJ20
            rcases bcases (y12.2.2 != 0) with hc21 | hc21
            · skip
              refine JL.move (.some rfl rfl rfl hc21) rfl ?_
              refine JL.bin rfl rfl rfl (.some rfl rfl rfl hc21) rfl ?_
              refine JL.pick_t (b := (y12.2.2 != 0)) rfl hc21 (.some rfl rfl rfl hc19) rfl ?_
              exact hJ20 _ ⟨rfl, rfl, rfl, rfl, rfl, rfl, rfl, and_t hc21 rfl⟩
            · skip
              refine JL.skip (.bool rfl rfl rfl hc21) rfl ?_
              refine JL.skip (.bool rfl rfl rfl hc21) rfl ?_
              refine JL.pick_f (b := (y12.2.2 != 0)) rfl hc21 (.some rfl rfl rfl hc19) rfl ?_
              exact hJ20 _ ⟨rfl, rfl, rfl, rfl, rfl, rfl, rfl, and_f hc21 rfl⟩
          · rintro f ⟨hf2, hf3, hf5, hf9, hf10, hf11, hf54, hf60⟩
            refine (JL.norm (i := 2) hf2 (JL.norm (i := 3) hf3 (JL.norm (i := 5) hf5 (JL.norm (i := 9) hf9 (JL.norm (i := 10) hf10 (JL.norm (i := 11) hf11 (JL.norm (i := 54) hf54 (JL.norm (i := 60) hf60 ?_))))))))
            refine JL.pick_f (b := (y11.2 != 0)) rfl hc19 .none rfl ?_
            exact hJ18 _ ⟨rfl, rfl, rfl, rfl, rfl, rfl, or_f hc19 rfl⟩
      · rintro f ⟨hf2, hf3, hf5, hf9, hf10, hf11, hf61⟩
        refine (JL.norm (i := 2) hf2 (JL.norm (i := 3) hf3 (JL.norm (i := 5) hf5 (JL.norm (i := 9) hf9 (JL.norm (i := 10) hf10 (JL.norm (i := 11) hf11 (JL.norm (i := 61) hf61 ?_)))))))
        refine JL.move .none rfl ?_
        refine JL.cut 3 (fun f => f 2 = .pointer (some ⟨b1, 0, none⟩) ∧ f 3 = .pointer (some ⟨b2, 0, none⟩) ∧ f 5 = .int .i64 y11.1 ∧ f 9 = .int .i64 y12.2.2 ∧ f 10 = y13a_v0 ∧ f 65 = .bool (((y11.2 != 0) || ((y12.2.2 != 0) && (y12.2.2 != 3))) || (y13.2 != 0))) ?_ ?_
        · intro hJ22
          rcases bcases ((y11.2 != 0) || ((y12.2.2 != 0) && (y12.2.2 != 3))) with hc23 | hc23
          · skip
            refine JL.skip (.bool rfl rfl rfl hc23) rfl ?_
            refine JL.skip (.bool rfl rfl rfl hc23) rfl ?_
            refine JL.pick_t (b := ((y11.2 != 0) || ((y12.2.2 != 0) && (y12.2.2 != 3)))) rfl hc23 .none rfl ?_
            exact hJ22 _ ⟨rfl, rfl, rfl, rfl, rfl, or_t hc23 rfl⟩
          · skip
            refine JL.move (.some rfl rfl rfl hc23) rfl ?_
            refine JL.bin rfl rfl rfl (.some rfl rfl rfl hc23) rfl ?_
            refine JL.pick_f (b := ((y11.2 != 0) || ((y12.2.2 != 0) && (y12.2.2 != 3)))) rfl hc23 .none rfl ?_
            exact hJ22 _ ⟨rfl, rfl, rfl, rfl, rfl, or_f hc23 rfl⟩
        · rintro f ⟨hf2, hf3, hf5, hf9, hf10, hf65⟩
          refine (JL.norm (i := 2) hf2 (JL.norm (i := 3) hf3 (JL.norm (i := 5) hf5 (JL.norm (i := 9) hf9 (JL.norm (i := 10) hf10 (JL.norm (i := 65) hf65 ?_))))))
          refine JL.move .none rfl ?_
          refine JL.cut 6 (fun f => f 2 = .pointer (some ⟨b1, 0, none⟩) ∧ f 3 = .pointer (some ⟨b2, 0, none⟩) ∧ f 5 = .int .i64 y11.1 ∧ f 10 = y13a_v0 ∧ f 72 = .bool ((((y11.2 != 0) || ((y12.2.2 != 0) && (y12.2.2 != 3))) || (y13.2 != 0)) || ((y11.1 == 1) != (y12.2.2 == 3)))) ?_ ?_
          · intro hJ24
            rcases bcases (((y11.2 != 0) || ((y12.2.2 != 0) && (y12.2.2 != 3))) || (y13.2 != 0)) with hc25 | hc25
            · skip
              refine JL.skip (.bool rfl rfl rfl hc25) rfl ?_
              refine JL.skip (.bool rfl rfl rfl hc25) rfl ?_
              refine JL.skip (.bool rfl rfl rfl hc25) rfl ?_
              refine JL.skip (.bool rfl rfl rfl hc25) rfl ?_
              refine JL.skip (.bool rfl rfl rfl hc25) rfl ?_
              refine JL.pick_t (b := (((y11.2 != 0) || ((y12.2.2 != 0) && (y12.2.2 != 3))) || (y13.2 != 0))) rfl hc25 .none rfl ?_
              exact hJ24 _ ⟨rfl, rfl, rfl, rfl, or_t hc25 rfl⟩
            · skip
              refine JL.move (.some rfl rfl rfl hc25) rfl ?_
              refine JL.bin rfl rfl rfl (.some rfl rfl rfl hc25) rfl ?_
              refine JL.move (.some rfl rfl rfl hc25) rfl ?_
              refine JL.bin rfl rfl rfl (.some rfl rfl rfl hc25) rfl ?_
              refine JL.neBool ub_4 rfl rfl (.some rfl rfl rfl hc25) rfl ?_
              refine JL.pick_f (b := (((y11.2 != 0) || ((y12.2.2 != 0) && (y12.2.2 != 3))) || (y13.2 != 0))) rfl hc25 .none rfl ?_
              exact hJ24 _ ⟨rfl, rfl, rfl, rfl, or_f hc25 rfl⟩
          · rintro f ⟨hf2, hf3, hf5, hf10, hf72⟩
            refine (JL.norm (i := 2) hf2 (JL.norm (i := 3) hf3 (JL.norm (i := 5) hf5 (JL.norm (i := 10) hf10 (JL.norm (i := 72) hf72 ?_)))))
            refine JL.move .none rfl ?_
            refine JL.cut 7 (fun f => f 2 = .pointer (some ⟨b1, 0, none⟩) ∧ f 3 = .pointer (some ⟨b2, 0, none⟩) ∧ f 10 = y13a_v0 ∧ f 80 = .bool (((((y11.2 != 0) || ((y12.2.2 != 0) && (y12.2.2 != 3))) || (y13.2 != 0)) || ((y11.1 == 1) != (y12.2.2 == 3))) || ((y11.1 == 2) != (decide (0 < (y13.1.length : Int)))))) ?_ ?_
            · intro hJ26
              rcases bcases ((((y11.2 != 0) || ((y12.2.2 != 0) && (y12.2.2 != 3))) || (y13.2 != 0)) || ((y11.1 == 1) != (y12.2.2 == 3))) with hc27 | hc27
              · skip
                refine JL.skip (.bool rfl rfl rfl hc27) rfl ?_
                refine JL.skip (.bool rfl rfl rfl hc27) rfl ?_
                refine JL.skip (.bool rfl rfl rfl hc27) rfl ?_
                refine JL.skip (.bool rfl rfl rfl hc27) rfl ?_
                refine JL.skip (.bool rfl rfl rfl hc27) rfl ?_
                refine JL.skip (.bool rfl rfl rfl hc27) rfl ?_
                refine JL.pick_t (b := ((((y11.2 != 0) || ((y12.2.2 != 0) && (y12.2.2 != 3))) || (y13.2 != 0)) || ((y11.1 == 1) != (y12.2.2 == 3)))) rfl hc27 .none rfl ?_
                exact hJ26 _ ⟨rfl, rfl, rfl, or_t hc27 rfl⟩
              · skip
                refine JL.move (.some rfl rfl rfl hc27) rfl ?_
                refine JL.bin rfl rfl rfl (.some rfl rfl rfl hc27) rfl ?_
                refine JL.move (.some rfl rfl rfl hc27) rfl ?_
                refine JL.lenSL (R := RInt) ul_54 hy13a_0 (.some rfl rfl rfl hc27) rfl ?_
                refine JL.bin rfl rfl rfl (.some rfl rfl rfl hc27) rfl ?_
                refine JL.neBool ub_4 rfl rfl (.some rfl rfl rfl hc27) rfl ?_
                refine JL.pick_f (b := ((((y11.2 != 0) || ((y12.2.2 != 0) && (y12.2.2 != 3))) || (y13.2 != 0)) || ((y11.1 == 1) != (y12.2.2 == 3)))) rfl hc27 .none rfl ?_
                exact hJ26 _ ⟨rfl, rfl, rfl, or_f hc27 rfl⟩
            · rintro f ⟨hf2, hf3, hf10, hf80⟩
              refine (JL.norm (i := 2) hf2 (JL.norm (i := 3) hf3 (JL.norm (i := 10) hf10 (JL.norm (i := 80) hf80 ?_))))
              refine JL.move .none rfl ?_
              refine JL.cut 7 (fun f => f 2 = .pointer (some ⟨b1, 0, none⟩) ∧ f 3 = .pointer (some ⟨b2, 0, none⟩) ∧ f 88 = .bool ((((((y11.2 != 0) || ((y12.2.2 != 0) && (y12.2.2 != 3))) || (y13.2 != 0)) || ((y11.1 == 1) != (y12.2.2 == 3))) || ((y11.1 == 2) != (decide (0 < (y13.1.length : Int))))) || (decide ((f_.Sections.length : Int) < (y13.1.length : Int))))) ?_ ?_
              · intro hJ28
                rcases bcases (((((y11.2 != 0) || ((y12.2.2 != 0) && (y12.2.2 != 3))) || (y13.2 != 0)) || ((y11.1 == 1) != (y12.2.2 == 3))) || ((y11.1 == 2) != (decide (0 < (y13.1.length : Int))))) with hc29 | hc29
                · skip
                  refine JL.skip (.bool rfl rfl rfl hc29) rfl ?_
                  refine JL.skip (.bool rfl rfl rfl hc29) rfl ?_
                  refine JL.skip (.bool rfl rfl rfl hc29) rfl ?_
                  refine JL.skip (.bool rfl rfl rfl hc29) rfl ?_
                  refine JL.skip (.bool rfl rfl rfl hc29) rfl ?_
                  refine JL.skip (.bool rfl rfl rfl hc29) rfl ?_
                  refine JL.pick_t (b := (((((y11.2 != 0) || ((y12.2.2 != 0) && (y12.2.2 != 3))) || (y13.2 != 0)) || ((y11.1 == 1) != (y12.2.2 == 3))) || ((y11.1 == 2) != (decide (0 < (y13.1.length : Int)))))) rfl hc29 .none rfl ?_
                  exact hJ28 _ ⟨rfl, rfl, or_t hc29 rfl⟩
                · skip
                  refine JL.move (.some rfl rfl rfl hc29) rfl ?_
                  refine JL.lenSL (R := RInt) ul_54 hy13a_0 (.some rfl rfl rfl hc29) rfl ?_
                  refine JL.fieldAddr fo_26_0 rfl (.some rfl rfl rfl hc29) rfl ?_
                  refine JL.loadOwn 1 az_22 rfl rfl rfl (.some rfl rfl rfl hc29) rfl ?_
                  refine JL.lenSL (R := R_Section) ul_22 (SL.mono R_Section_mono hs14 hf__0) (.some rfl rfl rfl hc29) rfl ?_
                  refine JL.bin rfl rfl rfl (.some rfl rfl rfl hc29) rfl ?_
                  refine JL.pick_f (b := (((((y11.2 != 0) || ((y12.2.2 != 0) && (y12.2.2 != 3))) || (y13.2 != 0)) || ((y11.1 == 1) != (y12.2.2 == 3))) || ((y11.1 == 2) != (decide (0 < (y13.1.length : Int)))))) rfl hc29 .none rfl ?_
                  exact hJ28 _ ⟨rfl, rfl, or_f hc29 rfl⟩
              · rintro f ⟨hf2, hf3, hf88⟩
                refine (JL.norm (i := 2) hf2 (JL.norm (i := 3) hf3 (JL.norm (i := 88) hf88 ?_)))
                refine JL.done hQ ?_
                refine JQ.go ?_
                rcases ite_some hF with ⟨hc30, hF⟩ | ⟨hc30, hF⟩
                · refine JC.cond_t (b := ((((((y11.2 != 0) || ((y12.2.2 != 0) && (y12.2.2 != 3))) || (y13.2 != 0)) || ((y11.1 == 1) != (y12.2.2 == 3))) || ((y11.1 == 2) != (decide (0 < (y13.1.length : Int))))) || (decide ((f_.Sections.length : Int) < (y13.1.length : Int))))) rfl hc30 ?_
                  refine JC.seq ?_
                  refine JC.region (by rfl) ?_
                  intro hQ
                  refine JL.assign .none rfl ?_
                  refine JL.done hQ ?_
                  refine JQ.go ?_
                  refine JC.ret ?_
                  refine JQ.ret_then ?_
                  obtain rfl := Option.some.inj hF
                  exact JQ.outS rfl (.tmp .nil) rfl
                · refine JC.cond_f (b := ((((((y11.2 != 0) || ((y12.2.2 != 0) && (y12.2.2 != 3))) || (y13.2 != 0)) || ((y11.1 == 1) != (y12.2.2 == 3))) || ((y11.1 == 2) != (decide (0 < (y13.1.length : Int))))) || (decide ((f_.Sections.length : Int) < (y13.1.length : Int))))) rfl hc30 ?_
                  refine JC.skip ?_
                  refine JQ.go ?_
                  refine JC.seq ?_
                  refine JC.region (by rfl) ?_
                  intro hQ
                  refine JL.loadOwn 1 az_26 rfl rfl rfl .none rfl ?_
                  obtain ⟨y31, hy31, hF⟩ := bind_some hF
                  refine JL.callH (c_ref01_Copy n H14 f_ f__v0 (SL.mono R_Section_mono hs14 hf__0) y31 hy31) rfl en_13 .none rfl ?_
                  rintro H32 vv33 hs32 ⟨y31a_v0, rfl, hy31a_0⟩
                  refine JL.alloc ze_26 .none rfl ?_
                  intro b34
                  refine JL.storeOwn 0 (cs := [y31a_v0, .int .i64 y31.Low, .int .i64 y31.High, .int .i64 y31.Ease.Num, .int .i64 y31.Ease.Den, .int .i64 y31.Rod, .int .i64 y31.Case]) az_26 rfl rfl rfl (one_cons (SL.one hy31a_0) (one_cons rfl (one_cons rfl (one_cons rfl (one_cons rfl (one_cons rfl (one_cons rfl one_nil))))))) rfl rfl .none ?_
                  refine JL.done hQ ?_
                  refine JQ.go ?_
                  refine JC.seq ?_
                  refine JC.region (by rfl) ?_
                  intro hQ
                  refine JL.fieldAddr fo_26_0 rfl .none rfl ?_
                  refine JL.loadOwn 0 az_22 rfl rfl rfl .none rfl ?_
                  refine JL.fieldAddr fo_28_0 rfl .none rfl ?_
                  refine JL.loadOwn 1 az_3 rfl rfl rfl .none rfl ?_
                  refine JL.bin rfl rfl rfl .none rfl ?_
                  obtain ⟨y35, hy35, hF⟩ := bind_some hF
                  refine JL.sliceHi (R := R_Section) sl_22 hy31a_0 rfl hy35 .none rfl ?_
                  intro v36 hv37
                  refine JL.fieldAddr fo_26_0 rfl .none rfl ?_
                  refine JL.storeOwn 0 (cs := [v36]) az_22 rfl (SL.vc hv37) rfl (one_cons (SL.one hv37) one_nil) rfl rfl .none ?_
                  refine JL.done hQ ?_
                  refine JQ.go ?_
                  refine JC.seq ?_
                  refine JC.region (by rfl) ?_
                  intro hQ
                  refine JL.loadOwn 2 az_26 rfl rfl rfl .none rfl ?_
                  refine JL.fieldAddr fo_28_0 rfl .none rfl ?_
                  refine JL.loadOwn 1 az_3 rfl rfl rfl .none rfl ?_
                  refine JL.fieldAddr fo_28_1 rfl .none rfl ?_
                  refine JL.loadOwn 1 az_3 rfl rfl rfl .none rfl ?_
                  obtain ⟨y38, hy38, hF⟩ := bind_some hF
                  refine JL.callS (c_frames_Binds n H32 f_ f__v0 (SL.mono R_Section_mono (HSub.trans hs14 hs32) hf__0) x_.Section x_.R y38 hy38) rfl en_20 .none rfl ?_
                  refine JL.move .none rfl ?_
                  refine JL.extract rfl rfl .none rfl ?_
                  refine JL.extract rfl rfl .none rfl ?_
                  refine JL.assign .none rfl ?_
                  refine JL.assign .none rfl ?_
                  refine JL.done hQ ?_
                  refine JQ.go ?_
                  refine JC.fresh (fun f => f 2 = .pointer (some ⟨b1, 0, none⟩) ∧ f 3 = .pointer (some ⟨b2, 0, none⟩) ∧ f 12 = .pointer (some ⟨b34, 0, none⟩) ∧ f 13 = .int .i64 y38.1 ∧ f 14 = .int .i64 y38.2) ⟨rfl, rfl, rfl, rfl, rfl⟩ ?_
                  rintro f ⟨hf2, hf3, hf12, hf13, hf14⟩
                  refine (JC.norm (i := 2) hf2 (JC.norm (i := 3) hf3 (JC.norm (i := 12) hf12 (JC.norm (i := 13) hf13 (JC.norm (i := 14) hf14 ?_)))))
                  refine JC.seq ?_
                  refine JC.region (by rfl) ?_
                  intro hQ
                  refine JL.loadOwn 0 az_26 rfl rfl rfl .none rfl ?_
                  refine JL.fieldAddr fo_28_0 rfl .none rfl ?_
                  refine JL.loadOwn 1 az_3 rfl rfl rfl .none rfl ?_
                  refine JL.fieldAddr fo_28_1 rfl .none rfl ?_
                  refine JL.loadOwn 1 az_3 rfl rfl rfl .none rfl ?_
                  obtain ⟨y39, hy39, hF⟩ := bind_some hF
                  refine JL.callS (c_frames_Binds n H32 (Frame.mk y35 y31.Low y31.High y31.Ease y31.Rod y31.Case) v36 hv37 x_.Section x_.R y39 hy39) rfl en_20 .none rfl ?_
                  refine JL.move .none rfl ?_
                  refine JL.extract rfl rfl .none rfl ?_
                  refine JL.extract rfl rfl .none rfl ?_
                  refine JL.assign .none rfl ?_
                  refine JL.assign .none rfl ?_
                  refine JL.done hQ ?_
                  refine JQ.go ?_
                  refine JC.fresh (fun f => f 2 = .pointer (some ⟨b1, 0, none⟩) ∧ f 3 = .pointer (some ⟨b2, 0, none⟩) ∧ f 12 = .pointer (some ⟨b34, 0, none⟩) ∧ f 13 = .int .i64 y38.1 ∧ f 14 = .int .i64 y38.2 ∧ f 15 = .int .i64 y39.1 ∧ f 16 = .int .i64 y39.2) ⟨rfl, rfl, rfl, rfl, rfl, rfl, rfl⟩ ?_
                  rintro f ⟨hf2, hf3, hf12, hf13, hf14, hf15, hf16⟩
                  refine (JC.norm (i := 2) hf2 (JC.norm (i := 3) hf3 (JC.norm (i := 12) hf12 (JC.norm (i := 13) hf13 (JC.norm (i := 14) hf14 (JC.norm (i := 15) hf15 (JC.norm (i := 16) hf16 ?_)))))))
                  refine JC.seq ?_
                  refine JC.region (by rfl) ?_
                  intro hQ
                  refine JL.loadOwn 2 az_26 rfl rfl rfl .none rfl ?_
                  refine JL.fieldAddr fo_28_0 rfl .none rfl ?_
                  refine JL.loadOwn 1 az_3 rfl rfl rfl .none rfl ?_
                  obtain ⟨y40, hy40, hF⟩ := bind_some hF
                  refine JL.callS (c_frames_Turns n H32 f_ f__v0 (SL.mono R_Section_mono (HSub.trans hs14 hs32) hf__0) x_.Section y40 hy40) rfl en_33 .none rfl ?_
                  refine JL.move .none rfl ?_
                  refine JL.extract rfl rfl .none rfl ?_
                  refine JL.extract rfl rfl .none rfl ?_
                  refine JL.assign .none rfl ?_
                  refine JL.assign .none rfl ?_
                  refine JL.done hQ ?_
                  refine JQ.go ?_
                  refine JC.seq ?_
                  refine JC.region (by rfl) ?_
                  intro hQ
                  refine JL.loadOwn 0 az_26 rfl rfl rfl .none rfl ?_
                  refine JL.fieldAddr fo_28_0 rfl .none rfl ?_
                  refine JL.loadOwn 1 az_3 rfl rfl rfl .none rfl ?_
                  obtain ⟨y41, hy41, hF⟩ := bind_some hF
                  refine JL.callS (c_frames_Turns n H32 (Frame.mk y35 y31.Low y31.High y31.Ease y31.Rod y31.Case) v36 hv37 x_.Section y41 hy41) rfl en_33 .none rfl ?_
                  refine JL.move .none rfl ?_
                  refine JL.extract rfl rfl .none rfl ?_
                  refine JL.extract rfl rfl .none rfl ?_
                  refine JL.assign .none rfl ?_
                  refine JL.assign .none rfl ?_
                  refine JL.done hQ ?_
                  refine JQ.go ?_
                  refine JC.fresh (fun f => f 2 = .pointer (some ⟨b1, 0, none⟩) ∧ f 3 = .pointer (some ⟨b2, 0, none⟩) ∧ f 13 = .int .i64 y38.1 ∧ f 14 = .int .i64 y38.2 ∧ f 15 = .int .i64 y39.1 ∧ f 16 = .int .i64 y39.2 ∧ f 17 = .int .i64 y40.1 ∧ f 18 = .int .i64 y40.2 ∧ f 19 = .int .i64 y41.1 ∧ f 20 = .int .i64 y41.2) ⟨rfl, rfl, rfl, rfl, rfl, rfl, rfl, rfl, rfl, rfl⟩ ?_
                  rintro f ⟨hf2, hf3, hf13, hf14, hf15, hf16, hf17, hf18, hf19, hf20⟩
                  refine (JC.norm (i := 2) hf2 (JC.norm (i := 3) hf3 (JC.norm (i := 13) hf13 (JC.norm (i := 14) hf14 (JC.norm (i := 15) hf15 (JC.norm (i := 16) hf16 (JC.norm (i := 17) hf17 (JC.norm (i := 18) hf18 (JC.norm (i := 19) hf19 (JC.norm (i := 20) hf20 ?_))))))))))
                  refine JC.seq ?_
                  refine JC.region (by rfl) ?_
                  intro hQ
                  refine JL.loadOwn 2 az_26 rfl rfl rfl .none rfl ?_
                  refine JL.fieldAddr fo_28_0 rfl .none rfl ?_
                  refine JL.loadOwn 1 az_3 rfl rfl rfl .none rfl ?_
                  refine JL.fieldAddr fo_28_1 rfl .none rfl ?_
                  refine JL.loadOwn 1 az_3 rfl rfl rfl .none rfl ?_
                  obtain ⟨y42, hy42, hF⟩ := bind_some hF
                  refine JL.callS (c_frames_Distance n H32 f_ f__v0 (SL.mono R_Section_mono (HSub.trans hs14 hs32) hf__0) x_.Section x_.R y42 hy42) rfl en_16 .none rfl ?_
                  refine JL.move .none rfl ?_
                  refine JL.extract rfl rfl .none rfl ?_
                  refine JL.extract rfl rfl .none rfl ?_
                  refine JL.assign .none rfl ?_
                  refine JL.assign .none rfl ?_
                  refine JL.done hQ ?_
                  refine JQ.go ?_
                  refine JC.fresh (fun f => f 2 = .pointer (some ⟨b1, 0, none⟩) ∧ f 3 = .pointer (some ⟨b2, 0, none⟩) ∧ f 13 = .int .i64 y38.1 ∧ f 14 = .int .i64 y38.2 ∧ f 15 = .int .i64 y39.1 ∧ f 16 = .int .i64 y39.2 ∧ f 17 = .int .i64 y40.1 ∧ f 18 = .int .i64 y40.2 ∧ f 19 = .int .i64 y41.1 ∧ f 20 = .int .i64 y41.2 ∧ f 21 = .int .i64 y42.1 ∧ f 22 = .int .i64 y42.2) ⟨rfl, rfl, rfl, rfl, rfl, rfl, rfl, rfl, rfl, rfl, rfl, rfl⟩ ?_
                  rintro f ⟨hf2, hf3, hf13, hf14, hf15, hf16, hf17, hf18, hf19, hf20, hf21, hf22⟩
                  refine (JC.norm (i := 2) hf2 (JC.norm (i := 3) hf3 (JC.norm (i := 13) hf13 (JC.norm (i := 14) hf14 (JC.norm (i := 15) hf15 (JC.norm (i := 16) hf16 (JC.norm (i := 17) hf17 (JC.norm (i := 18) hf18 (JC.norm (i := 19) hf19 (JC.norm (i := 20) hf20 (JC.norm (i := 21) hf21 (JC.norm (i := 22) hf22 ?_))))))))))))
                  refine JC.seq ?_
                  refine JC.seq ?_
                  refine JC.region (by rfl) ?_
                  intro hQ
                  refine JL.move .none rfl ?_
                  refine JL.bin rfl rfl rfl .none rfl ?_
                  refine JL.move .none rfl ?_
                  refine JL.cut 3 (fun f => f 2 = .pointer (some ⟨b1, 0, none⟩) ∧ f 3 = .pointer (some ⟨b2, 0, none⟩) ∧ f 13 = .int .i64 y38.1 ∧ f 15 = .int .i64 y39.1 ∧ f 17 = .int .i64 y40.1 ∧ f 18 = .int .i64 y40.2 ∧ f 19 = .int .i64 y41.1 ∧ f 20 = .int .i64 y41.2 ∧ f 21 = .int .i64 y42.1 ∧ f 22 = .int .i64 y42.2 ∧ f 144 = .bool ((y38.2 != 0) || (y39.2 != 0))) ?_ ?_
                  · intro hJ43
                    rcases bcases (y38.2 != 0) with hc44 | hc44
                    · skip
                      refine JL.skip (.bool rfl rfl rfl hc44) rfl ?_
                      refine JL.skip (.bool rfl rfl rfl hc44) rfl ?_
                      refine JL.pick_t (b := (y38.2 != 0)) rfl hc44 .none rfl ?_
                      exact hJ43 _ ⟨rfl, rfl, rfl, rfl, rfl, rfl, rfl, rfl, rfl, rfl, or_t hc44 rfl⟩
                    · skip
                      refine JL.move (.some rfl rfl rfl hc44) rfl ?_
                      refine JL.bin rfl rfl rfl (.some rfl rfl rfl hc44) rfl ?_
                      refine JL.pick_f (b := (y38.2 != 0)) rfl hc44 .none rfl ?_
                      exact hJ43 _ ⟨rfl, rfl, rfl, rfl, rfl, rfl, rfl, rfl, rfl, rfl, or_f hc44 rfl⟩
                  · rintro f ⟨hf2, hf3, hf13, hf15, hf17, hf18, hf19, hf20, hf21, hf22, hf144⟩
                    refine (JL.norm (i := 2) hf2 (JL.norm (i := 3) hf3 (JL.norm (i := 13) hf13 (JL.norm (i := 15) hf15 (JL.norm (i := 17) hf17 (JL.norm (i := 18) hf18 (JL.norm (i := 19) hf19 (JL.norm (i := 20) hf20 (JL.norm (i := 21) hf21 (JL.norm (i := 22) hf22 (JL.norm (i := 144) hf144 ?_)))))))))))
                    refine JL.move .none rfl ?_
                    refine JL.cut 3 (fun f => f 2 = .pointer (some ⟨b1, 0, none⟩) ∧ f 3 = .pointer (some ⟨b2, 0, none⟩) ∧ f 13 = .int .i64 y38.1 ∧ f 15 = .int .i64 y39.1 ∧ f 17 = .int .i64 y40.1 ∧ f 19 = .int .i64 y41.1 ∧ f 20 = .int .i64 y41.2 ∧ f 21 = .int .i64 y42.1 ∧ f 22 = .int .i64 y42.2 ∧ f 148 = .bool (((y38.2 != 0) || (y39.2 != 0)) || (y40.2 != 0))) ?_ ?_
                    · intro hJ45
                      rcases bcases ((y38.2 != 0) || (y39.2 != 0)) with hc46 | hc46
                      · skip
                        refine JL.skip (.bool rfl rfl rfl hc46) rfl ?_
                        refine JL.skip (.bool rfl rfl rfl hc46) rfl ?_
                        refine JL.pick_t (b := ((y38.2 != 0) || (y39.2 != 0))) rfl hc46 .none rfl ?_
                        exact hJ45 _ ⟨rfl, rfl, rfl, rfl, rfl, rfl, rfl, rfl, rfl, or_t hc46 rfl⟩
                      · skip
                        refine JL.move (.some rfl rfl rfl hc46) rfl ?_
                        refine JL.bin rfl rfl rfl (.some rfl rfl rfl hc46) rfl ?_
                        refine JL.pick_f (b := ((y38.2 != 0) || (y39.2 != 0))) rfl hc46 .none rfl ?_
                        exact hJ45 _ ⟨rfl, rfl, rfl, rfl, rfl, rfl, rfl, rfl, rfl, or_f hc46 rfl⟩
                    · rintro f ⟨hf2, hf3, hf13, hf15, hf17, hf19, hf20, hf21, hf22, hf148⟩
                      refine (JL.norm (i := 2) hf2 (JL.norm (i := 3) hf3 (JL.norm (i := 13) hf13 (JL.norm (i := 15) hf15 (JL.norm (i := 17) hf17 (JL.norm (i := 19) hf19 (JL.norm (i := 20) hf20 (JL.norm (i := 21) hf21 (JL.norm (i := 22) hf22 (JL.norm (i := 148) hf148 ?_))))))))))
                      refine JL.move .none rfl ?_
                      refine JL.cut 3 (fun f => f 2 = .pointer (some ⟨b1, 0, none⟩) ∧ f 3 = .pointer (some ⟨b2, 0, none⟩) ∧ f 13 = .int .i64 y38.1 ∧ f 15 = .int .i64 y39.1 ∧ f 17 = .int .i64 y40.1 ∧ f 19 = .int .i64 y41.1 ∧ f 21 = .int .i64 y42.1 ∧ f 22 = .int .i64 y42.2 ∧ f 152 = .bool ((((y38.2 != 0) || (y39.2 != 0)) || (y40.2 != 0)) || (y41.2 != 0))) ?_ ?_
                      · intro hJ47
                        rcases bcases (((y38.2 != 0) || (y39.2 != 0)) || (y40.2 != 0)) with hc48 | hc48
                        · skip
                          refine JL.skip (.bool rfl rfl rfl hc48) rfl ?_
                          refine JL.skip (.bool rfl rfl rfl hc48) rfl ?_
                          refine JL.pick_t (b := (((y38.2 != 0) || (y39.2 != 0)) || (y40.2 != 0))) rfl hc48 .none rfl ?_
                          exact hJ47 _ ⟨rfl, rfl, rfl, rfl, rfl, rfl, rfl, rfl, or_t hc48 rfl⟩
                        · skip
                          refine JL.move (.some rfl rfl rfl hc48) rfl ?_
                          refine JL.bin rfl rfl rfl (.some rfl rfl rfl hc48) rfl ?_
                          refine JL.pick_f (b := (((y38.2 != 0) || (y39.2 != 0)) || (y40.2 != 0))) rfl hc48 .none rfl ?_
                          exact hJ47 _ ⟨rfl, rfl, rfl, rfl, rfl, rfl, rfl, rfl, or_f hc48 rfl⟩
                      · rintro f ⟨hf2, hf3, hf13, hf15, hf17, hf19, hf21, hf22, hf152⟩
                        refine (JL.norm (i := 2) hf2 (JL.norm (i := 3) hf3 (JL.norm (i := 13) hf13 (JL.norm (i := 15) hf15 (JL.norm (i := 17) hf17 (JL.norm (i := 19) hf19 (JL.norm (i := 21) hf21 (JL.norm (i := 22) hf22 (JL.norm (i := 152) hf152 ?_)))))))))
                        refine JL.move .none rfl ?_
                        refine JL.cut 3 (fun f => f 2 = .pointer (some ⟨b1, 0, none⟩) ∧ f 3 = .pointer (some ⟨b2, 0, none⟩) ∧ f 13 = .int .i64 y38.1 ∧ f 15 = .int .i64 y39.1 ∧ f 17 = .int .i64 y40.1 ∧ f 19 = .int .i64 y41.1 ∧ f 21 = .int .i64 y42.1 ∧ f 156 = .bool (((((y38.2 != 0) || (y39.2 != 0)) || (y40.2 != 0)) || (y41.2 != 0)) || (y42.2 != 0))) ?_ ?_
                        · intro hJ49
                          rcases bcases ((((y38.2 != 0) || (y39.2 != 0)) || (y40.2 != 0)) || (y41.2 != 0)) with hc50 | hc50
                          · skip
                            refine JL.skip (.bool rfl rfl rfl hc50) rfl ?_
                            refine JL.skip (.bool rfl rfl rfl hc50) rfl ?_
                            refine JL.pick_t (b := ((((y38.2 != 0) || (y39.2 != 0)) || (y40.2 != 0)) || (y41.2 != 0))) rfl hc50 .none rfl ?_
                            exact hJ49 _ ⟨rfl, rfl, rfl, rfl, rfl, rfl, rfl, or_t hc50 rfl⟩
                          · skip
                            refine JL.move (.some rfl rfl rfl hc50) rfl ?_
                            refine JL.bin rfl rfl rfl (.some rfl rfl rfl hc50) rfl ?_
                            refine JL.pick_f (b := ((((y38.2 != 0) || (y39.2 != 0)) || (y40.2 != 0)) || (y41.2 != 0))) rfl hc50 .none rfl ?_
                            exact hJ49 _ ⟨rfl, rfl, rfl, rfl, rfl, rfl, rfl, or_f hc50 rfl⟩
                        · rintro f ⟨hf2, hf3, hf13, hf15, hf17, hf19, hf21, hf156⟩
                          refine (JL.norm (i := 2) hf2 (JL.norm (i := 3) hf3 (JL.norm (i := 13) hf13 (JL.norm (i := 15) hf15 (JL.norm (i := 17) hf17 (JL.norm (i := 19) hf19 (JL.norm (i := 21) hf21 (JL.norm (i := 156) hf156 ?_))))))))
                          refine JL.move .none rfl ?_
                          refine JL.cut 4 (fun f => f 2 = .pointer (some ⟨b1, 0, none⟩) ∧ f 3 = .pointer (some ⟨b2, 0, none⟩) ∧ f 17 = .int .i64 y40.1 ∧ f 19 = .int .i64 y41.1 ∧ f 21 = .int .i64 y42.1 ∧ f 161 = .bool ((((((y38.2 != 0) || (y39.2 != 0)) || (y40.2 != 0)) || (y41.2 != 0)) || (y42.2 != 0)) || (y38.1 != y39.1))) ?_ ?_
                          · intro hJ51
                            rcases bcases (((((y38.2 != 0) || (y39.2 != 0)) || (y40.2 != 0)) || (y41.2 != 0)) || (y42.2 != 0)) with hc52 | hc52
                            · skip
                              refine JL.skip (.bool rfl rfl rfl hc52) rfl ?_
                              refine JL.skip (.bool rfl rfl rfl hc52) rfl ?_
                              refine JL.skip (.bool rfl rfl rfl hc52) rfl ?_
                              refine JL.pick_t (b := (((((y38.2 != 0) || (y39.2 != 0)) || (y40.2 != 0)) || (y41.2 != 0)) || (y42.2 != 0))) rfl hc52 .none rfl ?_
                              exact hJ51 _ ⟨rfl, rfl, rfl, rfl, rfl, or_t hc52 rfl⟩
                            · skip
                              refine JL.move (.some rfl rfl rfl hc52) rfl ?_
                              refine JL.move (.some rfl rfl rfl hc52) rfl ?_
                              refine JL.bin rfl rfl rfl (.some rfl rfl rfl hc52) rfl ?_
                              refine JL.pick_f (b := (((((y38.2 != 0) || (y39.2 != 0)) || (y40.2 != 0)) || (y41.2 != 0)) || (y42.2 != 0))) rfl hc52 .none rfl ?_
                              exact hJ51 _ ⟨rfl, rfl, rfl, rfl, rfl, or_f hc52 rfl⟩
                          · rintro f ⟨hf2, hf3, hf17, hf19, hf21, hf161⟩
                            refine (JL.norm (i := 2) hf2 (JL.norm (i := 3) hf3 (JL.norm (i := 17) hf17 (JL.norm (i := 19) hf19 (JL.norm (i := 21) hf21 (JL.norm (i := 161) hf161 ?_))))))
                            refine JL.move .none rfl ?_
                            refine JL.cut 4 (fun f => f 2 = .pointer (some ⟨b1, 0, none⟩) ∧ f 3 = .pointer (some ⟨b2, 0, none⟩) ∧ f 21 = .int .i64 y42.1 ∧ f 166 = .bool (((((((y38.2 != 0) || (y39.2 != 0)) || (y40.2 != 0)) || (y41.2 != 0)) || (y42.2 != 0)) || (y38.1 != y39.1)) || (y40.1 != y41.1))) ?_ ?_
                            · intro hJ53
                              rcases bcases ((((((y38.2 != 0) || (y39.2 != 0)) || (y40.2 != 0)) || (y41.2 != 0)) || (y42.2 != 0)) || (y38.1 != y39.1)) with hc54 | hc54
                              · skip
                                refine JL.skip (.bool rfl rfl rfl hc54) rfl ?_
                                refine JL.skip (.bool rfl rfl rfl hc54) rfl ?_
                                refine JL.skip (.bool rfl rfl rfl hc54) rfl ?_
                                refine JL.pick_t (b := ((((((y38.2 != 0) || (y39.2 != 0)) || (y40.2 != 0)) || (y41.2 != 0)) || (y42.2 != 0)) || (y38.1 != y39.1))) rfl hc54 .none rfl ?_
                                exact hJ53 _ ⟨rfl, rfl, rfl, or_t hc54 rfl⟩
                              · skip
                                refine JL.move (.some rfl rfl rfl hc54) rfl ?_
                                refine JL.move (.some rfl rfl rfl hc54) rfl ?_
                                refine JL.bin rfl rfl rfl (.some rfl rfl rfl hc54) rfl ?_
                                refine JL.pick_f (b := ((((((y38.2 != 0) || (y39.2 != 0)) || (y40.2 != 0)) || (y41.2 != 0)) || (y42.2 != 0)) || (y38.1 != y39.1))) rfl hc54 .none rfl ?_
                                exact hJ53 _ ⟨rfl, rfl, rfl, or_f hc54 rfl⟩
                            · rintro f ⟨hf2, hf3, hf21, hf166⟩
                              refine (JL.norm (i := 2) hf2 (JL.norm (i := 3) hf3 (JL.norm (i := 21) hf21 (JL.norm (i := 166) hf166 ?_))))
                              refine JL.done hQ ?_
                              refine JQ.go ?_
                              rcases ite_some hF with ⟨hc55, hF⟩ | ⟨hc55, hF⟩
                              · refine JC.cond_t (b := (((((((y38.2 != 0) || (y39.2 != 0)) || (y40.2 != 0)) || (y41.2 != 0)) || (y42.2 != 0)) || (y38.1 != y39.1)) || (y40.1 != y41.1))) rfl hc55 ?_
                                refine JC.seq ?_
                                refine JC.region (by rfl) ?_
                                intro hQ
                                refine JL.assign .none rfl ?_
                                refine JL.done hQ ?_
                                refine JQ.go ?_
                                refine JC.ret ?_
                                refine JQ.ret_then ?_
                                obtain rfl := Option.some.inj hF
                                exact JQ.outS rfl (.tmp .nil) rfl
                              · refine JC.cond_f (b := (((((((y38.2 != 0) || (y39.2 != 0)) || (y40.2 != 0)) || (y41.2 != 0)) || (y42.2 != 0)) || (y38.1 != y39.1)) || (y40.1 != y41.1))) rfl hc55 ?_
                                refine JC.skip ?_
                                refine JQ.go ?_
                                refine JC.seq ?_
                                refine JC.seq ?_
                                refine JC.region (by rfl) ?_
                                intro hQ
                                refine JL.fieldAddr fo_28_0 rfl .none rfl ?_
                                refine JL.loadOwn 1 az_3 rfl rfl rfl .none rfl ?_
                                refine JL.bin rfl rfl rfl .none rfl ?_
                                refine JL.done hQ ?_
                                refine JQ.go ?_
                                rcases ite_some hF with ⟨hc56, hF⟩ | ⟨hc56, hF⟩
                                · refine JC.cond_t (b := (x_.Section == 0)) rfl hc56 ?_
                                  refine JC.seq ?_
                                  refine JC.region (by rfl) ?_
                                  intro hQ
                                  refine JL.move .none rfl ?_
                                  refine JL.fieldAddr fo_28_1 rfl .none rfl ?_
                                  refine JL.loadOwn 1 az_3 rfl rfl rfl .none rfl ?_
                                  refine JL.bin rfl rfl rfl .none rfl ?_
                                  refine JL.move .none rfl ?_
                                  obtain ⟨p58, hp58, hF⟩ := bind_some hF
                                  refine JL.cut 2 (fun f => f 176 = .bool p58) ?_ ?_
                                  · intro hJ59
                                    rcases ite_some hp58 with ⟨hc60, hF⟩ | ⟨hc60, hF⟩
                                    · skip
                                      obtain ⟨y61, hy61, hF⟩ := bind_some hF
                                      refine JL.callS (c_law01_works n H32 y61 hy61) rfl en_12 (.some rfl rfl rfl hc60) rfl ?_
                                      refine JL.pick_t (b := (y42.1 == x_.R)) rfl hc60 .none rfl ?_
                                      obtain rfl := Option.some.inj hF
                                      exact hJ59 _ (rfl)
                                    · skip
                                      refine JL.skip (.bool rfl rfl rfl hc60) rfl ?_
                                      refine JL.pick_f (b := (y42.1 == x_.R)) rfl hc60 .none rfl ?_
                                      obtain rfl := Option.some.inj hF
                                      exact hJ59 _ (rfl)
                                  · rintro f hf176
                                    refine (JL.norm (i := 176) hf176 ?_)
                                    refine JL.assign .none rfl ?_
                                    refine JL.done hQ ?_
                                    refine JQ.go ?_
                                    refine JC.ret ?_
                                    refine JQ.ret_then ?_
                                    obtain rfl := Option.some.inj hF
                                    exact JQ.outS rfl (.tmp .nil) rfl
                                · refine JC.cond_f (b := (x_.Section == 0)) rfl hc56 ?_
                                  refine JC.skip ?_
                                  refine JQ.go ?_
                                  refine JC.seq ?_
                                  refine JC.region (by rfl) ?_
                                  intro hQ
                                  refine JL.fieldAddr fo_26_0 rfl .none rfl ?_
                                  refine JL.loadOwn 2 az_22 rfl rfl rfl .none rfl ?_
                                  refine JL.fieldAddr fo_28_0 rfl .none rfl ?_
                                  refine JL.loadOwn 1 az_3 rfl rfl rfl .none rfl ?_
                                  obtain ⟨y62, hy62, hF⟩ := bind_some hF
                                  refine JL.indexSL (R := R_Section) sl_22 (SL.mono R_Section_mono (HSub.trans hs14 hs32) hf__0) rfl hy62 .none rfl ?_
                                  rintro b63 o64 cs65 hc66 - rfl
                                  refine JL.loadH 0 az_61 rfl hc66 rfl .none rfl ?_
                                  refine JL.alloc ze_61 .none rfl ?_
                                  intro b67
                                  refine JL.storeOwn 0 (cs := [.int .i64 y62.Arm.Low, .int .i64 y62.Arm.High, .int .i64 y62.Stretch.Low, .int .i64 y62.Stretch.High, .int .i64 y62.Base, .int .i64 y62.Gear.Num, .int .i64 y62.Gear.Den]) az_61 rfl rfl rfl (one_cons rfl (one_cons rfl (one_cons rfl (one_cons rfl (one_cons rfl (one_cons rfl (one_cons rfl one_nil))))))) rfl rfl .none ?_
                                  refine JL.done hQ ?_
                                  refine JQ.go ?_
                                  refine JC.fresh (fun f => f 2 = .pointer (some ⟨b1, 0, none⟩) ∧ f 3 = .pointer (some ⟨b2, 0, none⟩) ∧ f 21 = .int .i64 y42.1 ∧ f 23 = .pointer (some ⟨b67, 0, none⟩)) ⟨rfl, rfl, rfl, rfl⟩ ?_
                                  rintro f ⟨hf2, hf3, hf21, hf23⟩
                                  refine (JC.norm (i := 2) hf2 (JC.norm (i := 3) hf3 (JC.norm (i := 21) hf21 (JC.norm (i := 23) hf23 ?_))))
                                  refine JC.seq ?_
                                  refine JC.region (by rfl) ?_
                                  intro hQ
                                  refine JL.loadOwn 3 az_26 rfl rfl rfl .none rfl ?_
                                  refine JL.fieldAddr fo_28_0 rfl .none rfl ?_
                                  refine JL.loadOwn 2 az_3 rfl rfl rfl .none rfl ?_
                                  refine JL.bin rfl rfl rfl .none rfl ?_
                                  refine JL.fieldAddr fo_28_1 rfl .none rfl ?_
                                  refine JL.loadOwn 2 az_3 rfl rfl rfl .none rfl ?_
                                  obtain ⟨y68, hy68, hF⟩ := bind_some hF
                                  refine JL.callS (c_frames_Distance n H32 f_ f__v0 (SL.mono R_Section_mono (HSub.trans hs14 hs32) hf__0) (w64 (x_.Section - 1)) x_.R y68 hy68) rfl en_16 .none rfl ?_
                                  refine JL.move .none rfl ?_
                                  refine JL.extract rfl rfl .none rfl ?_
                                  refine JL.extract rfl rfl .none rfl ?_
                                  refine JL.assign .none rfl ?_
                                  refine JL.assign .none rfl ?_
                                  refine JL.done hQ ?_
                                  refine JQ.go ?_
                                  refine JC.fresh (fun f => f 21 = .int .i64 y42.1 ∧ f 23 = .pointer (some ⟨b67, 0, none⟩) ∧ f 24 = .int .i64 y68.1 ∧ f 25 = .int .i64 y68.2) ⟨rfl, rfl, rfl, rfl⟩ ?_
                                  rintro f ⟨hf21, hf23, hf24, hf25⟩
                                  refine (JC.norm (i := 21) hf21 (JC.norm (i := 23) hf23 (JC.norm (i := 24) hf24 (JC.norm (i := 25) hf25 ?_))))
                                  refine JC.seq ?_
                                  refine JC.draw (by rfl) mo_ (by kernel_rfl) ?_
                                  intro hQ
                                  refine JL.move .none rfl ?_
                                  refine JL.bin rfl rfl rfl .none rfl ?_
                                  refine JL.move .none rfl ?_
                                  refine JL.cut 3 (fun f => f 21 = .int .i64 y42.1 ∧ f 23 = .pointer (some ⟨b67, 0, none⟩) ∧ f 24 = .int .i64 y68.1 ∧ f 198 = .bool ((y68.2 == 0) && (decide (0 ≤ y68.1)))) ?_ ?_
                                  · intro hJ83
                                    rcases bcases (y68.2 == 0) with hc84 | hc84
                                    · skip
                                      refine JL.move (.some rfl rfl rfl hc84) rfl ?_
                                      refine JL.bin rfl rfl rfl (.some rfl rfl rfl hc84) rfl ?_
                                      refine JL.pick_t (b := (y68.2 == 0)) rfl hc84 .none rfl ?_
                                      exact hJ83 _ ⟨rfl, rfl, rfl, and_t hc84 rfl⟩
                                    · skip
                                      refine JL.skip (.bool rfl rfl rfl hc84) rfl ?_
                                      refine JL.skip (.bool rfl rfl rfl hc84) rfl ?_
                                      refine JL.pick_f (b := (y68.2 == 0)) rfl hc84 .none rfl ?_
                                      exact hJ83 _ ⟨rfl, rfl, rfl, and_f hc84 rfl⟩
                                  · rintro f ⟨hf21, hf23, hf24, hf198⟩
                                    refine (JL.norm (i := 21) hf21 (JL.norm (i := 23) hf23 (JL.norm (i := 24) hf24 (JL.norm (i := 198) hf198 ?_))))
                                    refine JL.move .none rfl ?_
                                    refine JL.cut 3 (fun f => f 21 = .int .i64 y42.1 ∧ f 23 = .pointer (some ⟨b67, 0, none⟩) ∧ f 24 = .int .i64 y68.1 ∧ f 202 = .bool (((y68.2 == 0) && (decide (0 ≤ y68.1))) && (decide (y68.1 ≤ 20000)))) ?_ ?_
                                    · intro hJ85
                                      rcases bcases ((y68.2 == 0) && (decide (0 ≤ y68.1))) with hc86 | hc86
                                      · skip
                                        refine JL.move (.some rfl rfl rfl hc86) rfl ?_
                                        refine JL.bin rfl rfl rfl (.some rfl rfl rfl hc86) rfl ?_
                                        refine JL.pick_t (b := ((y68.2 == 0) && (decide (0 ≤ y68.1)))) rfl hc86 .none rfl ?_
                                        exact hJ85 _ ⟨rfl, rfl, rfl, and_t hc86 rfl⟩
                                      · skip
                                        refine JL.skip (.bool rfl rfl rfl hc86) rfl ?_
                                        refine JL.skip (.bool rfl rfl rfl hc86) rfl ?_
                                        refine JL.pick_f (b := ((y68.2 == 0) && (decide (0 ≤ y68.1)))) rfl hc86 .none rfl ?_
                                        exact hJ85 _ ⟨rfl, rfl, rfl, and_f hc86 rfl⟩
                                    · rintro f ⟨hf21, hf23, hf24, hf202⟩
                                      refine (JL.norm (i := 21) hf21 (JL.norm (i := 23) hf23 (JL.norm (i := 24) hf24 (JL.norm (i := 202) hf202 ?_))))
                                      refine JL.move .none rfl ?_
                                      obtain ⟨p88, hp88, hF⟩ := bind_some hF
                                      refine JL.cut 15 (fun f => f 218 = .bool p88) ?_ ?_
                                      · intro hJ89
                                        rcases ite_some hp88 with ⟨hc90, hF⟩ | ⟨hc90, hF⟩
                                        · skip
                                          refine JL.move (.some rfl rfl rfl hc90) rfl ?_
                                          refine JL.fieldAddr fo_61_2 rfl (.some rfl rfl rfl hc90) rfl ?_
                                          refine JL.loadOwn 0 az_3 rfl rfl rfl (.some rfl rfl rfl hc90) rfl ?_
                                          refine JL.move (.some rfl rfl rfl hc90) rfl ?_
                                          refine JL.fieldAddr fo_61_3 rfl (.some rfl rfl rfl hc90) rfl ?_
                                          refine JL.fieldAddr fo_24_0 rfl (.some rfl rfl rfl hc90) rfl ?_
                                          refine JL.loadOwn 0 az_3 rfl rfl rfl (.some rfl rfl rfl hc90) rfl ?_
                                          refine JL.bin rfl rfl rfl (.some rfl rfl rfl hc90) rfl ?_
                                          refine JL.fieldAddr fo_61_3 rfl (.some rfl rfl rfl hc90) rfl ?_
                                          refine JL.fieldAddr fo_24_1 rfl (.some rfl rfl rfl hc90) rfl ?_
                                          refine JL.loadOwn 0 az_3 rfl rfl rfl (.some rfl rfl rfl hc90) rfl ?_
                                          obtain ⟨u91, hu91, hF⟩ := bind_some hF
                                          refine JL.div rfl rfl (nz_some hu91) rfl (.some rfl rfl rfl hc90) rfl ?_
                                          refine JL.bin rfl rfl rfl (.some rfl rfl rfl hc90) rfl ?_
                                          refine JL.bin rfl rfl rfl (.some rfl rfl rfl hc90) rfl ?_
                                          refine JL.pick_t (b := (((y68.2 == 0) && (decide (0 ≤ y68.1))) && (decide (y68.1 ≤ 20000)))) rfl hc90 .none rfl ?_
                                          obtain rfl := Option.some.inj hF
                                          exact hJ89 _ (rfl)
                                        · skip
                                          refine JL.skip (.bool rfl rfl rfl hc90) rfl ?_
                                          refine JL.skip (.bool rfl rfl rfl hc90) rfl ?_
                                          refine JL.skip (.bool rfl rfl rfl hc90) rfl ?_
                                          refine JL.skip (.bool rfl rfl rfl hc90) rfl ?_
                                          refine JL.skip (.bool rfl rfl rfl hc90) rfl ?_
                                          refine JL.skip (.bool rfl rfl rfl hc90) rfl ?_
                                          refine JL.skip (.bool rfl rfl rfl hc90) rfl ?_
                                          refine JL.skip (.bool rfl rfl rfl hc90) rfl ?_
                                          refine JL.skip (.bool rfl rfl rfl hc90) rfl ?_
                                          refine JL.skip (.bool rfl rfl rfl hc90) rfl ?_
                                          refine JL.skip (.bool rfl rfl rfl hc90) rfl ?_
                                          refine JL.skip (.bool rfl rfl rfl hc90) rfl ?_
                                          refine JL.skip (.bool rfl rfl rfl hc90) rfl ?_
                                          refine JL.skip (.bool rfl rfl rfl hc90) rfl ?_
                                          refine JL.pick_f (b := (((y68.2 == 0) && (decide (0 ≤ y68.1))) && (decide (y68.1 ≤ 20000)))) rfl hc90 .none rfl ?_
                                          obtain rfl := Option.some.inj hF
                                          exact hJ89 _ (rfl)
                                      · rintro f hf218
                                        refine (JL.norm (i := 218) hf218 ?_)
                                        refine JL.move .none rfl ?_
                                        obtain ⟨p93, hp93, hF⟩ := bind_some hF
                                        refine JL.cut 2 (fun f => f 221 = .bool p93) ?_ ?_
                                        · intro hJ94
                                          rcases ite_some hp93 with ⟨hc95, hF⟩ | ⟨hc95, hF⟩
                                          · skip
                                            obtain ⟨y96, hy96, hF⟩ := bind_some hF
                                            refine JL.callS (c_law01_works n H32 y96 hy96) rfl en_12 (.some rfl rfl rfl hc95) rfl ?_
                                            refine JL.pick_t (b := p88) rfl hc95 .none rfl ?_
                                            obtain rfl := Option.some.inj hF
                                            exact hJ94 _ (rfl)
                                          · skip
                                            refine JL.skip (.bool rfl rfl rfl hc95) rfl ?_
                                            refine JL.pick_f (b := p88) rfl hc95 .none rfl ?_
                                            obtain rfl := Option.some.inj hF
                                            exact hJ94 _ (rfl)
                                        · rintro f hf221
                                          refine (JL.norm (i := 221) hf221 ?_)
                                          refine JL.assign .none rfl ?_
                                          refine JL.doneQ hQ ?_
                                          refine JQ.go ?_
                                          refine JC.ret ?_
                                          obtain rfl := Option.some.inj hF
                                          exact JQ.outS rfl (.tmp .nil) rfl

end Go.Proofs.Ytmgnhaibbeinbaa
