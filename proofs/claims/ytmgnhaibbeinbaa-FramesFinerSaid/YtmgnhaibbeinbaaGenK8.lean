/-
  Printed by a program: functions of the translation as plain functions, and their contracts.
-/
import Derived.Test.YtmgnhaibbeinbaaGenK7
namespace Go.Proofs.Ytmgnhaibbeinbaa
open Go Go.RowKit Go.Dec
set_option linter.unusedVariables false
-- 4 ferrule/ferrulelaw01.FramesEnds
def F_law01_FramesEnds_s1 (n : Nat) (f_ : Frame) (x_ : law01_Ask) (y11 : Frac × Frac × Int) (y15 : Int × Int) (y31 : (List ref01_Pair)) : Bool × Bool × Int × Int → Option ((Bool × Bool × Int × Int) ⊕ (Bool × Bool × Int))
  | (first_300, last_301, some_302, i_303) => if decide (i_303 < (y31.length : Int)) = true then ((geti y31 i_303).bind fun y308 => (F_ref01_CosineOf n y15.1 y308).bind fun y313 => (if y313.2 = true then (some ((first_300 || ((y313.1.Num == y11.1.Num) && (y313.1.Den == y11.1.Den))), (last_301 || ((y313.1.Num == y11.2.1.Num) && (y313.1.Den == y11.2.1.Den))))) else (some (first_300, last_301))).bind fun r327 => match r327 with | (first_324, last_325) => (geti y31 i_303).bind fun y343 => (F_ref01_BindsAt n f_ x_.Section x_.R y343).bind fun y348 => (if y348 = true then (some (w64 (some_302 + 1))) else (some some_302)).bind fun some_350 => some (Sum.inl (first_324, last_325, some_350, (w64 (i_303 + 1))))) else (some (Sum.inr (first_300, last_301, some_302)))
def F_law01_FramesEnds (n : Nat) (f_ : Frame) (x_ : law01_Ask) : Option Bool :=
  (F_law01_ready n f_).bind fun y3 => (if (!y3) = true then (some true) else ((F_law01_isAsk n f_ x_).bind fun y8 => some (!y8)) : Option Bool).bind fun p5 => if p5 = true then ((F_law01_works n).bind fun y10 => some y10) else ((F_frames_Cosine n f_ x_.Section x_.R).bind fun y11 => (F_frames_Binds n f_ x_.Section x_.R).bind fun y14 => (F_frames_Distance n f_ x_.Section x_.R).bind fun y15 => if ((((((y14.2 != 0) || (y15.2 != 0)) || ((y11.2.2 != 0) && (y11.2.2 != 3))) || ((y11.2.2 == 3) != (y15.1 == 0))) || (decide (y15.1 < 0))) || (decide (20000 < y15.1))) = true then (some false) else ((F_ref01_Pairs n f_ x_.Section).bind fun y31 => (loopO n (F_law01_FramesEnds_s1 n f_ x_ y11 y15 y31) ((y11.2.2 != 0), (y11.2.2 != 0), 0, 0)).bind fun r195 => match r195 with | (first_191, last_192, some_193) => if ((((!first_191) || (!last_192)) || ((y14.1 == 1) != (some_193 == (y31.length : Int)))) || ((y14.1 == 2) != (some_193 == 0))) = true then (some false) else ((F_frames_First n f_).bind fun y361 => if (y361.2.2 != 0) = true then ((if ((y361.2.2 == 3) && (some_193 == 0)) = true then ((F_law01_works n).bind fun y369 => some y369) else (some false) : Option Bool).bind fun p366 => some p366) else ((F_frames_Binds n f_ y361.1 y361.2.1).bind fun y370 => (if (((y370.2 == 0) && (y370.1 != 2)) && (((some_193 == 0) || (decide (x_.R < y361.2.1))) || ((x_.R == y361.2.1) && (decide (y361.1 ≤ x_.Section))))) = true then ((F_law01_works n).bind fun y395 => some y395) else (some false) : Option Bool).bind fun p392 => some p392))))
set_option maxRecDepth 100000 in
set_option maxHeartbeats 40000000 in
theorem c_law01_FramesEnds (n : Nat) (H : Hp) (f_ : Frame) (f__v0 : Value) (hf__0 : SL H 7 R_Section f__v0 f_.Sections) (x_ : law01_Ask) (y : Bool) (hF : F_law01_FramesEnds n f_ x_ = some y) : SC Try.prog 4 [.agg [f__v0, .int .i64 f_.Low, .int .i64 f_.High, .int .i64 f_.Ease.Num, .int .i64 f_.Ease.Den, .int .i64 f_.Rod, .int .i64 f_.Case].toArray, .agg [.int .i64 x_.Section, .int .i64 x_.R].toArray] (.bool y) H := by
  rw [F_law01_FramesEnds] at hF
  refine SC.of (N := 216) Try.func4 rfl rfl rfl fun w => ?_
  refine JC.seq ?_
  refine JC.region (by rfl) ?_
  intro hQ
  refine JL.box (cs := [f__v0, .int .i64 f_.Low, .int .i64 f_.High, .int .i64 f_.Ease.Num, .int .i64 f_.Ease.Den, .int .i64 f_.Rod, .int .i64 f_.Case]) rfl .none rfl ?_
  intro b1
  refine JL.box (cs := [.int .i64 x_.Section, .int .i64 x_.R]) rfl .none rfl ?_
  intro b2
  refine JL.assign .none rfl ?_
  refine JL.done hQ ?_
  refine JQ.go ?_
  refine JC.seq ?_
  refine JC.seq ?_
  refine JC.region (by rfl) ?_
  intro hQ
  refine JL.loadOwn 1 az_26 rfl rfl rfl .none rfl ?_
  obtain ⟨y3, hy3, hF⟩ := bind_some hF
  refine JL.callS (c_law01_ready n H f_ f__v0 hf__0 y3 hy3) rfl en_23 .none rfl ?_
  refine JL.not rfl .none rfl ?_
  refine JL.move .none rfl ?_
  obtain ⟨p5, hp5, hF⟩ := bind_some hF
  refine JL.cut 5 (fun f => f 2 = .pointer (some ⟨b1, 0, none⟩) ∧ f 3 = .pointer (some ⟨b2, 0, none⟩) ∧ f 32 = .bool p5) ?_ ?_
  · intro hJ6
    rcases ite_some hp5 with ⟨hc7, hF⟩ | ⟨hc7, hF⟩
    · skip
      refine JL.skip (.bool rfl rfl rfl hc7) rfl ?_
      refine JL.skip (.bool rfl rfl rfl hc7) rfl ?_
      refine JL.skip (.bool rfl rfl rfl hc7) rfl ?_
      refine JL.skip (.bool rfl rfl rfl hc7) rfl ?_
      refine JL.pick_t (b := (!y3)) rfl hc7 .none rfl ?_
      obtain rfl := Option.some.inj hF
      exact hJ6 _ ⟨rfl, rfl, rfl⟩
    · skip
      refine JL.loadOwn 1 az_26 rfl rfl rfl (.some rfl rfl rfl hc7) rfl ?_
      refine JL.loadOwn 0 az_28 rfl rfl rfl (.some rfl rfl rfl hc7) rfl ?_
      obtain ⟨y8, hy8, hF⟩ := bind_some hF
      refine JL.callS (c_law01_isAsk n H f_ f__v0 hf__0 x_ y8 hy8) rfl en_24 (.some rfl rfl rfl hc7) rfl ?_
      refine JL.not rfl (.some rfl rfl rfl hc7) rfl ?_
      refine JL.pick_f (b := (!y3)) rfl hc7 .none rfl ?_
      obtain rfl := Option.some.inj hF
      exact hJ6 _ ⟨rfl, rfl, rfl⟩
  · rintro f ⟨hf2, hf3, hf32⟩
    refine (JL.norm (i := 2) hf2 (JL.norm (i := 3) hf3 (JL.norm (i := 32) hf32 ?_)))
    refine JL.done hQ ?_
    refine JQ.go ?_
    rcases ite_some hF with ⟨hc9, hF⟩ | ⟨hc9, hF⟩
    · refine JC.cond_t (b := p5) rfl hc9 ?_
      refine JC.seq ?_
      refine JC.region (by rfl) ?_
      intro hQ
      obtain ⟨y10, hy10, hF⟩ := bind_some hF
      refine JL.callS (c_law01_works n H y10 hy10) rfl en_12 .none rfl ?_
      refine JL.assign .none rfl ?_
      refine JL.done hQ ?_
      refine JQ.go ?_
      refine JC.ret ?_
      refine JQ.ret_then ?_
      obtain rfl := Option.some.inj hF
      exact JQ.outS rfl (.tmp .nil) rfl
    · refine JC.cond_f (b := p5) rfl hc9 ?_
      refine JC.skip ?_
      refine JQ.go ?_
      refine JC.seq ?_
      refine JC.region (by rfl) ?_
      intro hQ
      refine JL.loadOwn 1 az_26 rfl rfl rfl .none rfl ?_
      refine JL.fieldAddr fo_28_0 rfl .none rfl ?_
      refine JL.loadOwn 0 az_3 rfl rfl rfl .none rfl ?_
      refine JL.fieldAddr fo_28_1 rfl .none rfl ?_
      refine JL.loadOwn 0 az_3 rfl rfl rfl .none rfl ?_
      obtain ⟨y11, hy11, hF⟩ := bind_some hF
      refine JL.callS (c_frames_Cosine n H f_ f__v0 hf__0 x_.Section x_.R y11 hy11) rfl en_18 .none rfl ?_
      refine JL.move .none rfl ?_
      refine JL.extract rfl rfl .none rfl ?_
      refine JL.extract rfl rfl .none rfl ?_
      refine JL.extract rfl rfl .none rfl ?_
      refine JL.alloc ze_24 .none rfl ?_
      intro b12
      refine JL.alloc ze_24 .none rfl ?_
      intro b13
      refine JL.storeOwn 1 (cs := [.int .i64 y11.1.Num, .int .i64 y11.1.Den]) az_24 rfl rfl rfl (one_cons rfl (one_cons rfl one_nil)) rfl rfl .none ?_
      refine JL.storeOwn 0 (cs := [.int .i64 y11.2.1.Num, .int .i64 y11.2.1.Den]) az_24 rfl rfl rfl (one_cons rfl (one_cons rfl one_nil)) rfl rfl .none ?_
      refine JL.assign .none rfl ?_
      refine JL.done hQ ?_
      refine JQ.go ?_
      refine JC.fresh (fun f => f 2 = .pointer (some ⟨b1, 0, none⟩) ∧ f 3 = .pointer (some ⟨b2, 0, none⟩) ∧ f 5 = .pointer (some ⟨b12, 0, none⟩) ∧ f 6 = .pointer (some ⟨b13, 0, none⟩) ∧ f 7 = .int .i64 y11.2.2) ⟨rfl, rfl, rfl, rfl, rfl⟩ ?_
      rintro f ⟨hf2, hf3, hf5, hf6, hf7⟩
      refine (JC.norm (i := 2) hf2 (JC.norm (i := 3) hf3 (JC.norm (i := 5) hf5 (JC.norm (i := 6) hf6 (JC.norm (i := 7) hf7 ?_)))))
      refine JC.seq ?_
      refine JC.region (by rfl) ?_
      intro hQ
      refine JL.loadOwn 3 az_26 rfl rfl rfl .none rfl ?_
      refine JL.fieldAddr fo_28_0 rfl .none rfl ?_
      refine JL.loadOwn 2 az_3 rfl rfl rfl .none rfl ?_
      refine JL.fieldAddr fo_28_1 rfl .none rfl ?_
      refine JL.loadOwn 2 az_3 rfl rfl rfl .none rfl ?_
      obtain ⟨y14, hy14, hF⟩ := bind_some hF
      refine JL.callS (c_frames_Binds n H f_ f__v0 hf__0 x_.Section x_.R y14 hy14) rfl en_20 .none rfl ?_
      refine JL.move .none rfl ?_
      refine JL.extract rfl rfl .none rfl ?_
      refine JL.extract rfl rfl .none rfl ?_
      refine JL.assign .none rfl ?_
      refine JL.assign .none rfl ?_
      refine JL.done hQ ?_
      refine JQ.go ?_
      refine JC.fresh (fun f => f 2 = .pointer (some ⟨b1, 0, none⟩) ∧ f 3 = .pointer (some ⟨b2, 0, none⟩) ∧ f 5 = .pointer (some ⟨b12, 0, none⟩) ∧ f 6 = .pointer (some ⟨b13, 0, none⟩) ∧ f 7 = .int .i64 y11.2.2 ∧ f 8 = .int .i64 y14.1 ∧ f 9 = .int .i64 y14.2) ⟨rfl, rfl, rfl, rfl, rfl, rfl, rfl⟩ ?_
      rintro f ⟨hf2, hf3, hf5, hf6, hf7, hf8, hf9⟩
      refine (JC.norm (i := 2) hf2 (JC.norm (i := 3) hf3 (JC.norm (i := 5) hf5 (JC.norm (i := 6) hf6 (JC.norm (i := 7) hf7 (JC.norm (i := 8) hf8 (JC.norm (i := 9) hf9 ?_)))))))
      refine JC.seq ?_
      refine JC.region (by rfl) ?_
      intro hQ
      refine JL.loadOwn 3 az_26 rfl rfl rfl .none rfl ?_
      refine JL.fieldAddr fo_28_0 rfl .none rfl ?_
      refine JL.loadOwn 2 az_3 rfl rfl rfl .none rfl ?_
      refine JL.fieldAddr fo_28_1 rfl .none rfl ?_
      refine JL.loadOwn 2 az_3 rfl rfl rfl .none rfl ?_
      obtain ⟨y15, hy15, hF⟩ := bind_some hF
      refine JL.callS (c_frames_Distance n H f_ f__v0 hf__0 x_.Section x_.R y15 hy15) rfl en_16 .none rfl ?_
      refine JL.move .none rfl ?_
      refine JL.extract rfl rfl .none rfl ?_
      refine JL.extract rfl rfl .none rfl ?_
      refine JL.assign .none rfl ?_
      refine JL.assign .none rfl ?_
      refine JL.done hQ ?_
      refine JQ.go ?_
      refine JC.fresh (fun f => f 2 = .pointer (some ⟨b1, 0, none⟩) ∧ f 3 = .pointer (some ⟨b2, 0, none⟩) ∧ f 5 = .pointer (some ⟨b12, 0, none⟩) ∧ f 6 = .pointer (some ⟨b13, 0, none⟩) ∧ f 7 = .int .i64 y11.2.2 ∧ f 8 = .int .i64 y14.1 ∧ f 9 = .int .i64 y14.2 ∧ f 10 = .int .i64 y15.1 ∧ f 11 = .int .i64 y15.2) ⟨rfl, rfl, rfl, rfl, rfl, rfl, rfl, rfl, rfl⟩ ?_
      rintro f ⟨hf2, hf3, hf5, hf6, hf7, hf8, hf9, hf10, hf11⟩
      refine (JC.norm (i := 2) hf2 (JC.norm (i := 3) hf3 (JC.norm (i := 5) hf5 (JC.norm (i := 6) hf6 (JC.norm (i := 7) hf7 (JC.norm (i := 8) hf8 (JC.norm (i := 9) hf9 (JC.norm (i := 10) hf10 (JC.norm (i := 11) hf11 ?_)))))))))
      refine JC.seq ?_
      refine JC.seq ?_
      refine JC.region (by rfl) ?_
      intro hQ
      refine JL.move .none rfl ?_
      refine JL.bin rfl rfl rfl .none rfl ?_
      refine JL.move .none rfl ?_
      refine JL.cut 3 (fun f => f 2 = .pointer (some ⟨b1, 0, none⟩) ∧ f 3 = .pointer (some ⟨b2, 0, none⟩) ∧ f 5 = .pointer (some ⟨b12, 0, none⟩) ∧ f 6 = .pointer (some ⟨b13, 0, none⟩) ∧ f 7 = .int .i64 y11.2.2 ∧ f 8 = .int .i64 y14.1 ∧ f 10 = .int .i64 y15.1 ∧ f 67 = .bool ((y14.2 != 0) || (y15.2 != 0))) ?_ ?_
      · intro hJ16
        rcases bcases (y14.2 != 0) with hc17 | hc17
        · skip
          refine JL.skip (.bool rfl rfl rfl hc17) rfl ?_
          refine JL.skip (.bool rfl rfl rfl hc17) rfl ?_
          refine JL.pick_t (b := (y14.2 != 0)) rfl hc17 .none rfl ?_
          exact hJ16 _ ⟨rfl, rfl, rfl, rfl, rfl, rfl, rfl, or_t hc17 rfl⟩
        · skip
          refine JL.move (.some rfl rfl rfl hc17) rfl ?_
          refine JL.bin rfl rfl rfl (.some rfl rfl rfl hc17) rfl ?_
          refine JL.pick_f (b := (y14.2 != 0)) rfl hc17 .none rfl ?_
          exact hJ16 _ ⟨rfl, rfl, rfl, rfl, rfl, rfl, rfl, or_f hc17 rfl⟩
      · rintro f ⟨hf2, hf3, hf5, hf6, hf7, hf8, hf10, hf67⟩
        refine (JL.norm (i := 2) hf2 (JL.norm (i := 3) hf3 (JL.norm (i := 5) hf5 (JL.norm (i := 6) hf6 (JL.norm (i := 7) hf7 (JL.norm (i := 8) hf8 (JL.norm (i := 10) hf10 (JL.norm (i := 67) hf67 ?_))))))))
        refine JL.move .none rfl ?_
        refine JL.cut 7 (fun f => f 2 = .pointer (some ⟨b1, 0, none⟩) ∧ f 3 = .pointer (some ⟨b2, 0, none⟩) ∧ f 5 = .pointer (some ⟨b12, 0, none⟩) ∧ f 6 = .pointer (some ⟨b13, 0, none⟩) ∧ f 7 = .int .i64 y11.2.2 ∧ f 8 = .int .i64 y14.1 ∧ f 10 = .int .i64 y15.1 ∧ f 75 = .bool (((y14.2 != 0) || (y15.2 != 0)) || ((y11.2.2 != 0) && (y11.2.2 != 3)))) ?_ ?_
        · intro hJ20
          rcases bcases ((y14.2 != 0) || (y15.2 != 0)) with hc21 | hc21
          · skip
            refine JL.skip (.bool rfl rfl rfl hc21) rfl ?_
            refine JL.skip (.bool rfl rfl rfl hc21) rfl ?_
            refine JL.skip (.bool rfl rfl rfl hc21) rfl ?_
            refine JL.skip (.no rfl rfl rfl) rfl ?_
            refine JL.skip (.no rfl rfl rfl) rfl ?_
            refine JL.skip (.bool rfl rfl rfl hc21) rfl ?_
            refine JL.pick_t (b := ((y14.2 != 0) || (y15.2 != 0))) rfl hc21 .none rfl ?_
            exact hJ20 _ ⟨rfl, rfl, rfl, rfl, rfl, rfl, rfl, or_t hc21 rfl⟩
          · skip
            refine JL.move (.some rfl rfl rfl hc21) rfl ?_
            refine JL.bin rfl rfl rfl (.some rfl rfl rfl hc21) rfl ?_
            refine JL.move (.some rfl rfl rfl hc21) rfl ?_
            refine JL.cut 3 (fun f => f 2 = .pointer (some ⟨b1, 0, none⟩) ∧ f 3 = .pointer (some ⟨b2, 0, none⟩) ∧ f 5 = .pointer (some ⟨b12, 0, none⟩) ∧ f 6 = .pointer (some ⟨b13, 0, none⟩) ∧ f 7 = .int .i64 y11.2.2 ∧ f 8 = .int .i64 y14.1 ∧ f 10 = .int .i64 y15.1 ∧ f 68 = .bool ((y14.2 != 0) || (y15.2 != 0)) ∧ f 74 = .bool ((y11.2.2 != 0) && (y11.2.2 != 3))) ?_ ?_
            · intro hJ22
              rcases bcases (y11.2.2 != 0) with hc23 | hc23
              · skip
                refine JL.move (.some rfl rfl rfl hc23) rfl ?_
                refine JL.bin rfl rfl rfl (.some rfl rfl rfl hc23) rfl ?_
                refine JL.pick_t (b := (y11.2.2 != 0)) rfl hc23 (.some rfl rfl rfl hc21) rfl ?_
                exact hJ22 _ ⟨rfl, rfl, rfl, rfl, rfl, rfl, rfl, rfl, and_t hc23 rfl⟩
              · skip
                refine JL.skip (.bool rfl rfl rfl hc23) rfl ?_
                refine JL.skip (.bool rfl rfl rfl hc23) rfl ?_
                refine JL.pick_f (b := (y11.2.2 != 0)) rfl hc23 (.some rfl rfl rfl hc21) rfl ?_
                exact hJ22 _ ⟨rfl, rfl, rfl, rfl, rfl, rfl, rfl, rfl, and_f hc23 rfl⟩
            · rintro f ⟨hf2, hf3, hf5, hf6, hf7, hf8, hf10, hf68, hf74⟩
              refine (JL.norm (i := 2) hf2 (JL.norm (i := 3) hf3 (JL.norm (i := 5) hf5 (JL.norm (i := 6) hf6 (JL.norm (i := 7) hf7 (JL.norm (i := 8) hf8 (JL.norm (i := 10) hf10 (JL.norm (i := 68) hf68 (JL.norm (i := 74) hf74 ?_)))))))))
              refine JL.pick_f (b := ((y14.2 != 0) || (y15.2 != 0))) rfl hc21 .none rfl ?_
              exact hJ20 _ ⟨rfl, rfl, rfl, rfl, rfl, rfl, rfl, or_f hc21 rfl⟩
        · rintro f ⟨hf2, hf3, hf5, hf6, hf7, hf8, hf10, hf75⟩
          refine (JL.norm (i := 2) hf2 (JL.norm (i := 3) hf3 (JL.norm (i := 5) hf5 (JL.norm (i := 6) hf6 (JL.norm (i := 7) hf7 (JL.norm (i := 8) hf8 (JL.norm (i := 10) hf10 (JL.norm (i := 75) hf75 ?_))))))))
          refine JL.move .none rfl ?_
          refine JL.cut 6 (fun f => f 2 = .pointer (some ⟨b1, 0, none⟩) ∧ f 3 = .pointer (some ⟨b2, 0, none⟩) ∧ f 5 = .pointer (some ⟨b12, 0, none⟩) ∧ f 6 = .pointer (some ⟨b13, 0, none⟩) ∧ f 7 = .int .i64 y11.2.2 ∧ f 8 = .int .i64 y14.1 ∧ f 10 = .int .i64 y15.1 ∧ f 82 = .bool ((((y14.2 != 0) || (y15.2 != 0)) || ((y11.2.2 != 0) && (y11.2.2 != 3))) || ((y11.2.2 == 3) != (y15.1 == 0)))) ?_ ?_
          · intro hJ24
            rcases bcases (((y14.2 != 0) || (y15.2 != 0)) || ((y11.2.2 != 0) && (y11.2.2 != 3))) with hc25 | hc25
            · skip
              refine JL.skip (.bool rfl rfl rfl hc25) rfl ?_
              refine JL.skip (.bool rfl rfl rfl hc25) rfl ?_
              refine JL.skip (.bool rfl rfl rfl hc25) rfl ?_
              refine JL.skip (.bool rfl rfl rfl hc25) rfl ?_
              refine JL.skip (.bool rfl rfl rfl hc25) rfl ?_
              refine JL.pick_t (b := (((y14.2 != 0) || (y15.2 != 0)) || ((y11.2.2 != 0) && (y11.2.2 != 3)))) rfl hc25 .none rfl ?_
              exact hJ24 _ ⟨rfl, rfl, rfl, rfl, rfl, rfl, rfl, or_t hc25 rfl⟩
            · skip
              refine JL.move (.some rfl rfl rfl hc25) rfl ?_
              refine JL.bin rfl rfl rfl (.some rfl rfl rfl hc25) rfl ?_
              refine JL.move (.some rfl rfl rfl hc25) rfl ?_
              refine JL.bin rfl rfl rfl (.some rfl rfl rfl hc25) rfl ?_
              refine JL.neBool ub_4 rfl rfl (.some rfl rfl rfl hc25) rfl ?_
              refine JL.pick_f (b := (((y14.2 != 0) || (y15.2 != 0)) || ((y11.2.2 != 0) && (y11.2.2 != 3)))) rfl hc25 .none rfl ?_
              exact hJ24 _ ⟨rfl, rfl, rfl, rfl, rfl, rfl, rfl, or_f hc25 rfl⟩
          · rintro f ⟨hf2, hf3, hf5, hf6, hf7, hf8, hf10, hf82⟩
            refine (JL.norm (i := 2) hf2 (JL.norm (i := 3) hf3 (JL.norm (i := 5) hf5 (JL.norm (i := 6) hf6 (JL.norm (i := 7) hf7 (JL.norm (i := 8) hf8 (JL.norm (i := 10) hf10 (JL.norm (i := 82) hf82 ?_))))))))
            refine JL.move .none rfl ?_
            refine JL.cut 3 (fun f => f 2 = .pointer (some ⟨b1, 0, none⟩) ∧ f 3 = .pointer (some ⟨b2, 0, none⟩) ∧ f 5 = .pointer (some ⟨b12, 0, none⟩) ∧ f 6 = .pointer (some ⟨b13, 0, none⟩) ∧ f 7 = .int .i64 y11.2.2 ∧ f 8 = .int .i64 y14.1 ∧ f 10 = .int .i64 y15.1 ∧ f 86 = .bool (((((y14.2 != 0) || (y15.2 != 0)) || ((y11.2.2 != 0) && (y11.2.2 != 3))) || ((y11.2.2 == 3) != (y15.1 == 0))) || (decide (y15.1 < 0)))) ?_ ?_
            · intro hJ26
              rcases bcases ((((y14.2 != 0) || (y15.2 != 0)) || ((y11.2.2 != 0) && (y11.2.2 != 3))) || ((y11.2.2 == 3) != (y15.1 == 0))) with hc27 | hc27
              · skip
                refine JL.skip (.bool rfl rfl rfl hc27) rfl ?_
                refine JL.skip (.bool rfl rfl rfl hc27) rfl ?_
                refine JL.pick_t (b := ((((y14.2 != 0) || (y15.2 != 0)) || ((y11.2.2 != 0) && (y11.2.2 != 3))) || ((y11.2.2 == 3) != (y15.1 == 0)))) rfl hc27 .none rfl ?_
                exact hJ26 _ ⟨rfl, rfl, rfl, rfl, rfl, rfl, rfl, or_t hc27 rfl⟩
              · skip
                refine JL.move (.some rfl rfl rfl hc27) rfl ?_
                refine JL.bin rfl rfl rfl (.some rfl rfl rfl hc27) rfl ?_
                refine JL.pick_f (b := ((((y14.2 != 0) || (y15.2 != 0)) || ((y11.2.2 != 0) && (y11.2.2 != 3))) || ((y11.2.2 == 3) != (y15.1 == 0)))) rfl hc27 .none rfl ?_
                exact hJ26 _ ⟨rfl, rfl, rfl, rfl, rfl, rfl, rfl, or_f hc27 rfl⟩
            · rintro f ⟨hf2, hf3, hf5, hf6, hf7, hf8, hf10, hf86⟩
              refine (JL.norm (i := 2) hf2 (JL.norm (i := 3) hf3 (JL.norm (i := 5) hf5 (JL.norm (i := 6) hf6 (JL.norm (i := 7) hf7 (JL.norm (i := 8) hf8 (JL.norm (i := 10) hf10 (JL.norm (i := 86) hf86 ?_))))))))
              refine JL.move .none rfl ?_
              refine JL.cut 3 (fun f => f 2 = .pointer (some ⟨b1, 0, none⟩) ∧ f 3 = .pointer (some ⟨b2, 0, none⟩) ∧ f 5 = .pointer (some ⟨b12, 0, none⟩) ∧ f 6 = .pointer (some ⟨b13, 0, none⟩) ∧ f 7 = .int .i64 y11.2.2 ∧ f 8 = .int .i64 y14.1 ∧ f 10 = .int .i64 y15.1 ∧ f 90 = .bool ((((((y14.2 != 0) || (y15.2 != 0)) || ((y11.2.2 != 0) && (y11.2.2 != 3))) || ((y11.2.2 == 3) != (y15.1 == 0))) || (decide (y15.1 < 0))) || (decide (20000 < y15.1)))) ?_ ?_
              · intro hJ28
                rcases bcases (((((y14.2 != 0) || (y15.2 != 0)) || ((y11.2.2 != 0) && (y11.2.2 != 3))) || ((y11.2.2 == 3) != (y15.1 == 0))) || (decide (y15.1 < 0))) with hc29 | hc29
                · skip
                  refine JL.skip (.bool rfl rfl rfl hc29) rfl ?_
                  refine JL.skip (.bool rfl rfl rfl hc29) rfl ?_
                  refine JL.pick_t (b := (((((y14.2 != 0) || (y15.2 != 0)) || ((y11.2.2 != 0) && (y11.2.2 != 3))) || ((y11.2.2 == 3) != (y15.1 == 0))) || (decide (y15.1 < 0)))) rfl hc29 .none rfl ?_
                  exact hJ28 _ ⟨rfl, rfl, rfl, rfl, rfl, rfl, rfl, or_t hc29 rfl⟩
                · skip
                  refine JL.move (.some rfl rfl rfl hc29) rfl ?_
                  refine JL.bin rfl rfl rfl (.some rfl rfl rfl hc29) rfl ?_
                  refine JL.pick_f (b := (((((y14.2 != 0) || (y15.2 != 0)) || ((y11.2.2 != 0) && (y11.2.2 != 3))) || ((y11.2.2 == 3) != (y15.1 == 0))) || (decide (y15.1 < 0)))) rfl hc29 .none rfl ?_
                  exact hJ28 _ ⟨rfl, rfl, rfl, rfl, rfl, rfl, rfl, or_f hc29 rfl⟩
              · rintro f ⟨hf2, hf3, hf5, hf6, hf7, hf8, hf10, hf90⟩
                refine (JL.norm (i := 2) hf2 (JL.norm (i := 3) hf3 (JL.norm (i := 5) hf5 (JL.norm (i := 6) hf6 (JL.norm (i := 7) hf7 (JL.norm (i := 8) hf8 (JL.norm (i := 10) hf10 (JL.norm (i := 90) hf90 ?_))))))))
                refine JL.done hQ ?_
                refine JQ.go ?_
                rcases ite_some hF with ⟨hc30, hF⟩ | ⟨hc30, hF⟩
                · refine JC.cond_t (b := ((((((y14.2 != 0) || (y15.2 != 0)) || ((y11.2.2 != 0) && (y11.2.2 != 3))) || ((y11.2.2 == 3) != (y15.1 == 0))) || (decide (y15.1 < 0))) || (decide (20000 < y15.1)))) rfl hc30 ?_
                  refine JC.seq ?_
                  refine JC.region (by rfl) ?_
                  intro hQ
                  refine JL.assign .none rfl ?_
                  refine JL.done hQ ?_
                  refine JQ.go ?_
                  refine JC.ret ?_
                  refine JQ.ret_then ?_
                  obtain rfl := Option.some.inj hF
                  exact JQ.outS rfl (.tmp .nil) rfl
                · refine JC.cond_f (b := ((((((y14.2 != 0) || (y15.2 != 0)) || ((y11.2.2 != 0) && (y11.2.2 != 3))) || ((y11.2.2 == 3) != (y15.1 == 0))) || (decide (y15.1 < 0))) || (decide (20000 < y15.1)))) rfl hc30 ?_
                  refine JC.skip ?_
                  refine JQ.go ?_
                  refine JC.seq ?_
                  refine JC.region (by rfl) ?_
                  intro hQ
                  refine JL.loadOwn 3 az_26 rfl rfl rfl .none rfl ?_
                  refine JL.fieldAddr fo_28_0 rfl .none rfl ?_
                  refine JL.loadOwn 2 az_3 rfl rfl rfl .none rfl ?_
                  obtain ⟨y31, hy31, hF⟩ := bind_some hF
                  refine JL.callH (c_ref01_Pairs n H f_ f__v0 hf__0 x_.Section y31 hy31) rfl en_25 .none rfl ?_
                  intro H32 y31a_v0 hs32 hy31a_0
                  refine JL.assign .none rfl ?_
                  refine JL.done hQ ?_
                  refine JQ.go ?_
                  refine JC.seq ?_
                  refine JC.region (by rfl) ?_
                  intro hQ
                  refine JL.move .none rfl ?_
                  refine JL.bin rfl rfl rfl .none rfl ?_
                  refine JL.move .none rfl ?_
                  refine JL.bin rfl rfl rfl .none rfl ?_
                  refine JL.assign .none rfl ?_
                  refine JL.assign .none rfl ?_
                  refine JL.done hQ ?_
                  refine JQ.go ?_
                  refine JC.fresh (fun f => f 2 = .pointer (some ⟨b1, 0, none⟩) ∧ f 3 = .pointer (some ⟨b2, 0, none⟩) ∧ f 5 = .pointer (some ⟨b12, 0, none⟩) ∧ f 6 = .pointer (some ⟨b13, 0, none⟩) ∧ f 8 = .int .i64 y14.1 ∧ f 10 = .int .i64 y15.1 ∧ f 12 = y31a_v0 ∧ f 13 = .bool (y11.2.2 != 0) ∧ f 14 = .bool (y11.2.2 != 0)) ⟨rfl, rfl, rfl, rfl, rfl, rfl, rfl, rfl, rfl⟩ ?_
                  rintro f ⟨hf2, hf3, hf5, hf6, hf8, hf10, hf12, hf13, hf14⟩
                  refine (JC.norm (i := 2) hf2 (JC.norm (i := 3) hf3 (JC.norm (i := 5) hf5 (JC.norm (i := 6) hf6 (JC.norm (i := 8) hf8 (JC.norm (i := 10) hf10 (JC.norm (i := 12) hf12 (JC.norm (i := 13) hf13 (JC.norm (i := 14) hf14 ?_)))))))))
                  refine JC.seq ?_
                  refine JC.region (by rfl) ?_
                  intro hQ
                  refine JL.assign .none rfl ?_
                  refine JL.done hQ ?_
                  refine JQ.go ?_
                  refine JC.seq ?_
                  refine JC.seq ?_
                  refine JC.region (by rfl) ?_
                  intro hQ
                  refine JL.assign .none rfl ?_
                  refine JL.done hQ ?_
                  refine JQ.go ?_
                  obtain ⟨r195, hlr195, hKr195⟩ := bind_some hF
                  refine JC.join (fun (x : Bool × Bool × Int) H194 f bs gs => match x with | (first_191, last_192, some_193) => f 2 = .pointer (some ⟨b1, 0, none⟩) ∧ f 3 = .pointer (some ⟨b2, 0, none⟩) ∧ f 8 = .int .i64 y14.1 ∧ f 12 = y31a_v0 ∧ f 13 = .bool first_191 ∧ f 14 = .bool last_192 ∧ f 15 = .int .i64 some_193 ∧ bs = [(b2, .cells [.int .i64 x_.Section, .int .i64 x_.R].toArray 28), (b1, .cells [f__v0, .int .i64 f_.Low, .int .i64 f_.High, .int .i64 f_.Ease.Num, .int .i64 f_.Ease.Den, .int .i64 f_.Rod, .int .i64 f_.Case].toArray 26)] ∧ gs = [] ∧ HSub H32 H194 ∧ (first_191, last_192, some_193) = r195) ?_ ?_
                  · skip
                    refine JC.block ?_
                    refine JC.loop hlr195 (fun (x : Bool × Bool × Int × Int) H304 f bs gs => match x with | (first_300, last_301, some_302, i_303) => f 2 = .pointer (some ⟨b1, 0, none⟩) ∧ f 3 = .pointer (some ⟨b2, 0, none⟩) ∧ f 5 = .pointer (some ⟨b12, 0, none⟩) ∧ f 6 = .pointer (some ⟨b13, 0, none⟩) ∧ f 8 = .int .i64 y14.1 ∧ f 10 = .int .i64 y15.1 ∧ f 12 = y31a_v0 ∧ f 13 = .bool first_300 ∧ f 14 = .bool last_301 ∧ f 15 = .int .i64 some_302 ∧ f 16 = .int .i64 i_303 ∧ bs = [(b13, .cells [.int .i64 y11.2.1.Num, .int .i64 y11.2.1.Den].toArray 24), (b12, .cells [.int .i64 y11.1.Num, .int .i64 y11.1.Den].toArray 24), (b2, .cells [.int .i64 x_.Section, .int .i64 x_.R].toArray 28), (b1, .cells [f__v0, .int .i64 f_.Low, .int .i64 f_.High, .int .i64 f_.Ease.Num, .int .i64 f_.Ease.Den, .int .i64 f_.Rod, .int .i64 f_.Case].toArray 26)] ∧ gs = [] ∧ HSub H32 H304) ⟨rfl, rfl, rfl, rfl, rfl, rfl, rfl, rfl, rfl, rfl, rfl, rfl, rfl, (HSub.refl _)⟩ ?_
                    rintro ⟨first_300, last_301, some_302, i_303⟩ x306 H304 f bs gs ⟨hf2, hf3, hf5, hf6, hf8, hf10, hf12, hf13, hf14, hf15, hf16, rfl, rfl, hs304⟩ hF hr305
                    rw [F_law01_FramesEnds_s1] at hF
                    refine (JC.norm (i := 2) hf2 (JC.norm (i := 3) hf3 (JC.norm (i := 5) hf5 (JC.norm (i := 6) hf6 (JC.norm (i := 8) hf8 (JC.norm (i := 10) hf10 (JC.norm (i := 12) hf12 (JC.norm (i := 13) hf13 (JC.norm (i := 14) hf14 (JC.norm (i := 15) hf15 (JC.norm (i := 16) hf16 ?_)))))))))))
                    refine JC.seq ?_
                    refine JC.seq ?_
                    refine JC.region (by rfl) ?_
                    intro hQ
                    refine JL.move .none rfl ?_
                    refine JL.move .none rfl ?_
                    refine JL.lenSL (R := R_ref01_Pair) ul_40 (SL.mono R_ref01_Pair_mono hs304 hy31a_0) .none rfl ?_
                    refine JL.bin rfl rfl rfl .none rfl ?_
                    refine JL.done hQ ?_
                    refine JQ.go ?_
                    rcases ite_some hF with ⟨hc307, hF⟩ | ⟨hc307, hF⟩
                    · refine JC.cond_t (b := decide (i_303 < (y31.length : Int))) rfl hc307 ?_
                      refine JC.skip ?_
                      refine JQ.go ?_
                      refine JC.seq ?_
                      refine JC.block ?_
                      refine JC.seq ?_
                      refine JC.seq ?_
                      refine JC.region (by rfl) ?_
                      intro hQ
                      refine JL.move .none rfl ?_
                      refine JL.move .none rfl ?_
                      refine JL.move .none rfl ?_
                      obtain ⟨y308, hy308, hF⟩ := bind_some hF
                      refine JL.indexSL (R := R_ref01_Pair) sl_40 (SL.mono R_ref01_Pair_mono hs304 hy31a_0) rfl hy308 .none rfl ?_
                      rintro b309 o310 cs311 hc312 - rfl
                      refine JL.loadH 0 az_45 rfl hc312 rfl .none rfl ?_
                      obtain ⟨y313, hy313, hF⟩ := bind_some hF
                      refine JL.callS (c_ref01_CosineOf n H304 y15.1 y308 y313 hy313) rfl en_26 .none rfl ?_
                      refine JL.move .none rfl ?_
                      refine JL.extract rfl rfl .none rfl ?_
                      refine JL.extract rfl rfl .none rfl ?_
                      refine JL.alloc ze_24 .none rfl ?_
                      intro b314
                      refine JL.storeOwn 0 (cs := [.int .i64 y313.1.Num, .int .i64 y313.1.Den]) az_24 rfl rfl rfl (one_cons rfl (one_cons rfl one_nil)) rfl rfl .none ?_
                      refine JL.assign .none rfl ?_
                      refine JL.done hQ ?_
                      refine JQ.go ?_
                      refine JC.fresh (fun f => f 2 = .pointer (some ⟨b1, 0, none⟩) ∧ f 3 = .pointer (some ⟨b2, 0, none⟩) ∧ f 5 = .pointer (some ⟨b12, 0, none⟩) ∧ f 6 = .pointer (some ⟨b13, 0, none⟩) ∧ f 8 = .int .i64 y14.1 ∧ f 10 = .int .i64 y15.1 ∧ f 12 = y31a_v0 ∧ f 13 = .bool first_300 ∧ f 14 = .bool last_301 ∧ f 15 = .int .i64 some_302 ∧ f 16 = .int .i64 i_303 ∧ f 17 = .pointer (some ⟨b314, 0, none⟩) ∧ f 18 = .bool y313.2) ⟨rfl, rfl, rfl, rfl, rfl, rfl, rfl, rfl, rfl, rfl, rfl, rfl, rfl⟩ ?_
                      rintro f ⟨hf2, hf3, hf5, hf6, hf8, hf10, hf12, hf13, hf14, hf15, hf16, hf17, hf18⟩
                      refine (JC.norm (i := 2) hf2 (JC.norm (i := 3) hf3 (JC.norm (i := 5) hf5 (JC.norm (i := 6) hf6 (JC.norm (i := 8) hf8 (JC.norm (i := 10) hf10 (JC.norm (i := 12) hf12 (JC.norm (i := 13) hf13 (JC.norm (i := 14) hf14 (JC.norm (i := 15) hf15 (JC.norm (i := 16) hf16 (JC.norm (i := 17) hf17 (JC.norm (i := 18) hf18 ?_)))))))))))))
                      refine JC.seq ?_
                      refine JC.region (by rfl) ?_
                      intro hQ
                      refine JL.move .none rfl ?_
                      refine JL.done hQ ?_
                      refine JQ.go ?_
                      obtain ⟨r327, hlr327, hKr327⟩ := bind_some hF
                      refine JC.join (fun (x : Bool × Bool) H326 f bs gs => match x with | (first_324, last_325) => f 2 = .pointer (some ⟨b1, 0, none⟩) ∧ f 3 = .pointer (some ⟨b2, 0, none⟩) ∧ f 5 = .pointer (some ⟨b12, 0, none⟩) ∧ f 6 = .pointer (some ⟨b13, 0, none⟩) ∧ f 8 = .int .i64 y14.1 ∧ f 10 = .int .i64 y15.1 ∧ f 12 = y31a_v0 ∧ f 13 = .bool first_324 ∧ f 14 = .bool last_325 ∧ f 15 = .int .i64 some_302 ∧ f 16 = .int .i64 i_303 ∧ bs = [(b13, .cells [.int .i64 y11.2.1.Num, .int .i64 y11.2.1.Den].toArray 24), (b12, .cells [.int .i64 y11.1.Num, .int .i64 y11.1.Den].toArray 24), (b2, .cells [.int .i64 x_.Section, .int .i64 x_.R].toArray 28), (b1, .cells [f__v0, .int .i64 f_.Low, .int .i64 f_.High, .int .i64 f_.Ease.Num, .int .i64 f_.Ease.Den, .int .i64 f_.Rod, .int .i64 f_.Case].toArray 26)] ∧ gs = [] ∧ HSub H304 H326 ∧ (first_324, last_325) = r327) ?_ ?_
                      · have hF := hlr327
                        rcases ite_some hF with ⟨hc328, hF⟩ | ⟨hc328, hF⟩
                        · refine JC.cond_t (b := y313.2) rfl hc328 ?_
                          refine JC.draw (by rfl) mo_ (by kernel_rfl) ?_
                          intro hQ
                          refine JL.move .none rfl ?_
                          refine JL.move .none rfl ?_
                          refine JL.cut 4 (fun f => f 2 = .pointer (some ⟨b1, 0, none⟩) ∧ f 3 = .pointer (some ⟨b2, 0, none⟩) ∧ f 5 = .pointer (some ⟨b12, 0, none⟩) ∧ f 6 = .pointer (some ⟨b13, 0, none⟩) ∧ f 8 = .int .i64 y14.1 ∧ f 10 = .int .i64 y15.1 ∧ f 12 = y31a_v0 ∧ f 14 = .bool last_301 ∧ f 15 = .int .i64 some_302 ∧ f 16 = .int .i64 i_303 ∧ f 17 = .pointer (some ⟨b314, 0, none⟩) ∧ f 120 = .bool (first_300 || ((y313.1.Num == y11.1.Num) && (y313.1.Den == y11.1.Den)))) ?_ ?_
                          · intro hJ333
                            rcases bcases first_300 with hc334 | hc334
                            · skip
                              refine JL.skip (.bool rfl rfl rfl hc334) rfl ?_
                              refine JL.skip (.bool rfl rfl rfl hc334) rfl ?_
                              refine JL.skip (.bool rfl rfl rfl hc334) rfl ?_
                              refine JL.pick_t (b := first_300) rfl hc334 .none rfl ?_
                              exact hJ333 _ ⟨rfl, rfl, rfl, rfl, rfl, rfl, rfl, rfl, rfl, rfl, rfl, or_t hc334 rfl⟩
                            · skip
                              refine JL.loadOwn 0 az_24 rfl rfl rfl (.some rfl rfl rfl hc334) rfl ?_
                              refine JL.loadOwn 2 az_24 rfl rfl rfl (.some rfl rfl rfl hc334) rfl ?_
                              refine JL.eqAgg eqg_24 rfl rfl (fun w => eqa_24 y313.1.Num y313.1.Den y11.1.Num y11.1.Den w) (.some rfl rfl rfl hc334) rfl ?_
                              refine JL.pick_f (b := first_300) rfl hc334 .none rfl ?_
                              exact hJ333 _ ⟨rfl, rfl, rfl, rfl, rfl, rfl, rfl, rfl, rfl, rfl, rfl, or_f hc334 rfl⟩
                          · rintro f ⟨hf2, hf3, hf5, hf6, hf8, hf10, hf12, hf14, hf15, hf16, hf17, hf120⟩
                            refine (JL.norm (i := 2) hf2 (JL.norm (i := 3) hf3 (JL.norm (i := 5) hf5 (JL.norm (i := 6) hf6 (JL.norm (i := 8) hf8 (JL.norm (i := 10) hf10 (JL.norm (i := 12) hf12 (JL.norm (i := 14) hf14 (JL.norm (i := 15) hf15 (JL.norm (i := 16) hf16 (JL.norm (i := 17) hf17 (JL.norm (i := 120) hf120 ?_))))))))))))
                            refine JL.move .none rfl ?_
                            refine JL.move .none rfl ?_
                            refine JL.cut 4 (fun f => f 2 = .pointer (some ⟨b1, 0, none⟩) ∧ f 3 = .pointer (some ⟨b2, 0, none⟩) ∧ f 5 = .pointer (some ⟨b12, 0, none⟩) ∧ f 6 = .pointer (some ⟨b13, 0, none⟩) ∧ f 8 = .int .i64 y14.1 ∧ f 10 = .int .i64 y15.1 ∧ f 12 = y31a_v0 ∧ f 15 = .int .i64 some_302 ∧ f 16 = .int .i64 i_303 ∧ f 120 = .bool (first_300 || ((y313.1.Num == y11.1.Num) && (y313.1.Den == y11.1.Den))) ∧ f 126 = .bool (last_301 || ((y313.1.Num == y11.2.1.Num) && (y313.1.Den == y11.2.1.Den)))) ?_ ?_
                            · intro hJ335
                              rcases bcases last_301 with hc336 | hc336
                              · skip
                                refine JL.skip (.bool rfl rfl rfl hc336) rfl ?_
                                refine JL.skip (.bool rfl rfl rfl hc336) rfl ?_
                                refine JL.skip (.bool rfl rfl rfl hc336) rfl ?_
                                refine JL.pick_t (b := last_301) rfl hc336 .none rfl ?_
                                exact hJ335 _ ⟨rfl, rfl, rfl, rfl, rfl, rfl, rfl, rfl, rfl, rfl, or_t hc336 rfl⟩
                              · skip
                                refine JL.loadOwn 0 az_24 rfl rfl rfl (.some rfl rfl rfl hc336) rfl ?_
                                refine JL.loadOwn 1 az_24 rfl rfl rfl (.some rfl rfl rfl hc336) rfl ?_
                                refine JL.eqAgg eqg_24 rfl rfl (fun w => eqa_24 y313.1.Num y313.1.Den y11.2.1.Num y11.2.1.Den w) (.some rfl rfl rfl hc336) rfl ?_
                                refine JL.pick_f (b := last_301) rfl hc336 .none rfl ?_
                                exact hJ335 _ ⟨rfl, rfl, rfl, rfl, rfl, rfl, rfl, rfl, rfl, rfl, or_f hc336 rfl⟩
                            · rintro f ⟨hf2, hf3, hf5, hf6, hf8, hf10, hf12, hf15, hf16, hf120, hf126⟩
                              refine (JL.norm (i := 2) hf2 (JL.norm (i := 3) hf3 (JL.norm (i := 5) hf5 (JL.norm (i := 6) hf6 (JL.norm (i := 8) hf8 (JL.norm (i := 10) hf10 (JL.norm (i := 12) hf12 (JL.norm (i := 15) hf15 (JL.norm (i := 16) hf16 (JL.norm (i := 120) hf120 (JL.norm (i := 126) hf126 ?_)))))))))))
                              refine JL.assign .none rfl ?_
                              refine JL.assign .none rfl ?_
                              refine JL.doneQ hQ ?_
                              obtain rfl := Option.some.inj hF
                              refine JQ.mask [false, true, true, true, true] [] ?_
                              exact JQ.join ((first_300 || ((y313.1.Num == y11.1.Num) && (y313.1.Den == y11.1.Den))), (last_301 || ((y313.1.Num == y11.2.1.Num) && (y313.1.Den == y11.2.1.Den)))) ⟨rfl, rfl, rfl, rfl, rfl, rfl, rfl, rfl, rfl, rfl, rfl, rfl, rfl, (HSub.refl _), rfl⟩
                        · refine JC.cond_f (b := y313.2) rfl hc328 ?_
                          refine JC.skip ?_
                          obtain rfl := Option.some.inj hF
                          refine JQ.mask [false, true, true, true, true] [] ?_
                          exact JQ.join (first_300, last_301) ⟨rfl, rfl, rfl, rfl, rfl, rfl, rfl, rfl, rfl, rfl, rfl, rfl, rfl, (HSub.refl _), rfl⟩
                      · rintro ⟨first_324, last_325⟩ H326 f bs gs ⟨hf2, hf3, hf5, hf6, hf8, hf10, hf12, hf13, hf14, hf15, hf16, rfl, rfl, hs326, rfl⟩
                        have hF := hKr327
                        try dsimp only at hF
                        refine (JQ.norm (i := 2) hf2 (JQ.norm (i := 3) hf3 (JQ.norm (i := 5) hf5 (JQ.norm (i := 6) hf6 (JQ.norm (i := 8) hf8 (JQ.norm (i := 10) hf10 (JQ.norm (i := 12) hf12 (JQ.norm (i := 13) hf13 (JQ.norm (i := 14) hf14 (JQ.norm (i := 15) hf15 (JQ.norm (i := 16) hf16 ?_)))))))))))
                        refine JQ.go ?_
                        refine JC.seq ?_
                        refine JC.draw (by rfl) mo_ (by kernel_rfl) ?_
                        intro hQ
                        refine JL.loadOwn 3 az_26 rfl rfl rfl .none rfl ?_
                        refine JL.fieldAddr fo_28_0 rfl .none rfl ?_
                        refine JL.loadOwn 2 az_3 rfl rfl rfl .none rfl ?_
                        refine JL.fieldAddr fo_28_1 rfl .none rfl ?_
                        refine JL.loadOwn 2 az_3 rfl rfl rfl .none rfl ?_
                        refine JL.move .none rfl ?_
                        refine JL.move .none rfl ?_
                        obtain ⟨y343, hy343, hF⟩ := bind_some hF
                        refine JL.indexSL (R := R_ref01_Pair) sl_40 (SL.mono R_ref01_Pair_mono (HSub.trans hs304 hs326) hy31a_0) rfl hy343 .none rfl ?_
                        rintro b344 o345 cs346 hc347 - rfl
                        refine JL.loadH 0 az_45 rfl hc347 rfl .none rfl ?_
                        obtain ⟨y348, hy348, hF⟩ := bind_some hF
                        refine JL.callS (c_ref01_BindsAt n H326 f_ f__v0 (SL.mono R_Section_mono (HSub.trans hs32 (HSub.trans hs304 hs326)) hf__0) x_.Section x_.R y343 y348 hy348) rfl en_27 .none rfl ?_
                        refine JL.doneQ hQ ?_
                        refine JQ.go ?_
                        refine JC.fresh (fun f => f 2 = .pointer (some ⟨b1, 0, none⟩) ∧ f 3 = .pointer (some ⟨b2, 0, none⟩) ∧ f 5 = .pointer (some ⟨b12, 0, none⟩) ∧ f 6 = .pointer (some ⟨b13, 0, none⟩) ∧ f 8 = .int .i64 y14.1 ∧ f 10 = .int .i64 y15.1 ∧ f 12 = y31a_v0 ∧ f 13 = .bool first_324 ∧ f 14 = .bool last_325 ∧ f 15 = .int .i64 some_302 ∧ f 16 = .int .i64 i_303 ∧ f 136 = .bool y348) ⟨rfl, rfl, rfl, rfl, rfl, rfl, rfl, rfl, rfl, rfl, rfl, rfl⟩ ?_
                        rintro f ⟨hf2, hf3, hf5, hf6, hf8, hf10, hf12, hf13, hf14, hf15, hf16, hf136⟩
                        refine (JC.norm (i := 2) hf2 (JC.norm (i := 3) hf3 (JC.norm (i := 5) hf5 (JC.norm (i := 6) hf6 (JC.norm (i := 8) hf8 (JC.norm (i := 10) hf10 (JC.norm (i := 12) hf12 (JC.norm (i := 13) hf13 (JC.norm (i := 14) hf14 (JC.norm (i := 15) hf15 (JC.norm (i := 16) hf16 (JC.norm (i := 136) hf136 ?_))))))))))))
                        obtain ⟨r352, hlr352, hKr352⟩ := bind_some hF
                        refine JC.join (fun (some_350 : Int) H351 f bs gs => f 2 = .pointer (some ⟨b1, 0, none⟩) ∧ f 3 = .pointer (some ⟨b2, 0, none⟩) ∧ f 5 = .pointer (some ⟨b12, 0, none⟩) ∧ f 6 = .pointer (some ⟨b13, 0, none⟩) ∧ f 8 = .int .i64 y14.1 ∧ f 10 = .int .i64 y15.1 ∧ f 12 = y31a_v0 ∧ f 13 = .bool first_324 ∧ f 14 = .bool last_325 ∧ f 15 = .int .i64 some_350 ∧ f 16 = .int .i64 i_303 ∧ bs = [(b13, .cells [.int .i64 y11.2.1.Num, .int .i64 y11.2.1.Den].toArray 24), (b12, .cells [.int .i64 y11.1.Num, .int .i64 y11.1.Den].toArray 24), (b2, .cells [.int .i64 x_.Section, .int .i64 x_.R].toArray 28), (b1, .cells [f__v0, .int .i64 f_.Low, .int .i64 f_.High, .int .i64 f_.Ease.Num, .int .i64 f_.Ease.Den, .int .i64 f_.Rod, .int .i64 f_.Case].toArray 26)] ∧ gs = [] ∧ HSub H326 H351 ∧ some_350 = r352) ?_ ?_
                        · have hF := hlr352
                          rcases ite_some hF with ⟨hc353, hF⟩ | ⟨hc353, hF⟩
                          · refine JC.cond_t (b := y348) rfl hc353 ?_
                            refine JC.region (by rfl) ?_
                            intro hQ
                            refine JL.move .none rfl ?_
                            refine JL.bin rfl rfl rfl .none rfl ?_
                            refine JL.assign .none rfl ?_
                            refine JL.done hQ ?_
                            obtain rfl := Option.some.inj hF
                            exact JQ.join (w64 (some_302 + 1)) ⟨rfl, rfl, rfl, rfl, rfl, rfl, rfl, rfl, rfl, rfl, rfl, rfl, rfl, (HSub.refl _), rfl⟩
                          · refine JC.cond_f (b := y348) rfl hc353 ?_
                            refine JC.skip ?_
                            obtain rfl := Option.some.inj hF
                            exact JQ.join some_302 ⟨rfl, rfl, rfl, rfl, rfl, rfl, rfl, rfl, rfl, rfl, rfl, rfl, rfl, (HSub.refl _), rfl⟩
                        · rintro some_350 H351 f bs gs ⟨hf2, hf3, hf5, hf6, hf8, hf10, hf12, hf13, hf14, hf15, hf16, rfl, rfl, hs351, rfl⟩
                          have hF := hKr352
                          try dsimp only at hF
                          refine (JQ.norm (i := 2) hf2 (JQ.norm (i := 3) hf3 (JQ.norm (i := 5) hf5 (JQ.norm (i := 6) hf6 (JQ.norm (i := 8) hf8 (JQ.norm (i := 10) hf10 (JQ.norm (i := 12) hf12 (JQ.norm (i := 13) hf13 (JQ.norm (i := 14) hf14 (JQ.norm (i := 15) hf15 (JQ.norm (i := 16) hf16 ?_)))))))))))
                          refine JQ.normal_block ?_
                          refine JQ.go ?_
                          refine JC.region (by rfl) ?_
                          intro hQ
                          refine JL.move .none rfl ?_
                          refine JL.bin rfl rfl rfl .none rfl ?_
                          refine JL.assign .none rfl ?_
                          refine JL.done hQ ?_
                          obtain rfl := Option.some.inj hF
                          exact JQ.next rfl ⟨rfl, rfl, rfl, rfl, rfl, rfl, rfl, rfl, rfl, rfl, rfl, rfl, rfl, (HSub.trans hs304 (HSub.trans hs326 hs351))⟩
                    · refine JC.cond_f (b := decide (i_303 < (y31.length : Int))) rfl hc307 ?_
                      refine JC.exit ?_
                      refine JQ.exit_then ?_
                      refine JQ.exit_then ?_
                      refine JQ.exit_block ?_
                      obtain rfl := Option.some.inj hF
                      have ehr305 := hr305 _ rfl
                      subst ehr305
                      refine JQ.mask [false, false, true, true] [] ?_
                      exact JQ.join (first_300, last_301, some_302) ⟨rfl, rfl, rfl, rfl, rfl, rfl, rfl, rfl, rfl, hs304, rfl⟩
                  · rintro ⟨first_191, last_192, some_193⟩ H194 f bs gs ⟨hf2, hf3, hf8, hf12, hf13, hf14, hf15, rfl, rfl, hs194, rfl⟩
                    have hF := hKr195
                    try dsimp only at hF
                    refine (JQ.norm (i := 2) hf2 (JQ.norm (i := 3) hf3 (JQ.norm (i := 8) hf8 (JQ.norm (i := 12) hf12 (JQ.norm (i := 13) hf13 (JQ.norm (i := 14) hf14 (JQ.norm (i := 15) hf15 ?_)))))))
                    refine JQ.go ?_
                    refine JC.seq ?_
                    refine JC.seq ?_
                    refine JC.region (by rfl) ?_
                    intro hQ
                    refine JL.move .none rfl ?_
                    refine JL.not rfl .none rfl ?_
                    refine JL.move .none rfl ?_
                    refine JL.cut 3 (fun f => f 2 = .pointer (some ⟨b1, 0, none⟩) ∧ f 3 = .pointer (some ⟨b2, 0, none⟩) ∧ f 8 = .int .i64 y14.1 ∧ f 12 = y31a_v0 ∧ f 15 = .int .i64 some_193 ∧ f 144 = .bool ((!first_191) || (!last_192))) ?_ ?_
                    · intro hJ354
                      rcases bcases (!first_191) with hc355 | hc355
                      · skip
                        refine JL.skip (.bool rfl rfl rfl hc355) rfl ?_
                        refine JL.skip (.bool rfl rfl rfl hc355) rfl ?_
                        refine JL.pick_t (b := (!first_191)) rfl hc355 .none rfl ?_
                        exact hJ354 _ ⟨rfl, rfl, rfl, rfl, rfl, or_t hc355 rfl⟩
                      · skip
                        refine JL.move (.some rfl rfl rfl hc355) rfl ?_
                        refine JL.not rfl (.some rfl rfl rfl hc355) rfl ?_
                        refine JL.pick_f (b := (!first_191)) rfl hc355 .none rfl ?_
                        exact hJ354 _ ⟨rfl, rfl, rfl, rfl, rfl, or_f hc355 rfl⟩
                    · rintro f ⟨hf2, hf3, hf8, hf12, hf15, hf144⟩
                      refine (JL.norm (i := 2) hf2 (JL.norm (i := 3) hf3 (JL.norm (i := 8) hf8 (JL.norm (i := 12) hf12 (JL.norm (i := 15) hf15 (JL.norm (i := 144) hf144 ?_))))))
                      refine JL.move .none rfl ?_
                      refine JL.cut 8 (fun f => f 2 = .pointer (some ⟨b1, 0, none⟩) ∧ f 3 = .pointer (some ⟨b2, 0, none⟩) ∧ f 8 = .int .i64 y14.1 ∧ f 15 = .int .i64 some_193 ∧ f 153 = .bool (((!first_191) || (!last_192)) || ((y14.1 == 1) != (some_193 == (y31.length : Int))))) ?_ ?_
                      · intro hJ356
                        rcases bcases ((!first_191) || (!last_192)) with hc357 | hc357
                        · skip
                          refine JL.skip (.bool rfl rfl rfl hc357) rfl ?_
                          refine JL.skip (.bool rfl rfl rfl hc357) rfl ?_
                          refine JL.skip (.bool rfl rfl rfl hc357) rfl ?_
                          refine JL.skip (.bool rfl rfl rfl hc357) rfl ?_
                          refine JL.skip (.bool rfl rfl rfl hc357) rfl ?_
                          refine JL.skip (.bool rfl rfl rfl hc357) rfl ?_
                          refine JL.skip (.bool rfl rfl rfl hc357) rfl ?_
                          refine JL.pick_t (b := ((!first_191) || (!last_192))) rfl hc357 .none rfl ?_
                          exact hJ356 _ ⟨rfl, rfl, rfl, rfl, or_t hc357 rfl⟩
                        · skip
                          refine JL.move (.some rfl rfl rfl hc357) rfl ?_
                          refine JL.bin rfl rfl rfl (.some rfl rfl rfl hc357) rfl ?_
                          refine JL.move (.some rfl rfl rfl hc357) rfl ?_
                          refine JL.move (.some rfl rfl rfl hc357) rfl ?_
                          refine JL.lenSL (R := R_ref01_Pair) ul_40 (SL.mono R_ref01_Pair_mono hs194 hy31a_0) (.some rfl rfl rfl hc357) rfl ?_
                          refine JL.bin rfl rfl rfl (.some rfl rfl rfl hc357) rfl ?_
                          refine JL.neBool ub_4 rfl rfl (.some rfl rfl rfl hc357) rfl ?_
                          refine JL.pick_f (b := ((!first_191) || (!last_192))) rfl hc357 .none rfl ?_
                          exact hJ356 _ ⟨rfl, rfl, rfl, rfl, or_f hc357 rfl⟩
                      · rintro f ⟨hf2, hf3, hf8, hf15, hf153⟩
                        refine (JL.norm (i := 2) hf2 (JL.norm (i := 3) hf3 (JL.norm (i := 8) hf8 (JL.norm (i := 15) hf15 (JL.norm (i := 153) hf153 ?_)))))
                        refine JL.move .none rfl ?_
                        refine JL.cut 6 (fun f => f 2 = .pointer (some ⟨b1, 0, none⟩) ∧ f 3 = .pointer (some ⟨b2, 0, none⟩) ∧ f 15 = .int .i64 some_193 ∧ f 160 = .bool ((((!first_191) || (!last_192)) || ((y14.1 == 1) != (some_193 == (y31.length : Int)))) || ((y14.1 == 2) != (some_193 == 0)))) ?_ ?_
                        · intro hJ358
                          rcases bcases (((!first_191) || (!last_192)) || ((y14.1 == 1) != (some_193 == (y31.length : Int)))) with hc359 | hc359
                          · skip
                            refine JL.skip (.bool rfl rfl rfl hc359) rfl ?_
                            refine JL.skip (.bool rfl rfl rfl hc359) rfl ?_
                            refine JL.skip (.bool rfl rfl rfl hc359) rfl ?_
                            refine JL.skip (.bool rfl rfl rfl hc359) rfl ?_
                            refine JL.skip (.bool rfl rfl rfl hc359) rfl ?_
                            refine JL.pick_t (b := (((!first_191) || (!last_192)) || ((y14.1 == 1) != (some_193 == (y31.length : Int))))) rfl hc359 .none rfl ?_
                            exact hJ358 _ ⟨rfl, rfl, rfl, or_t hc359 rfl⟩
                          · skip
                            refine JL.move (.some rfl rfl rfl hc359) rfl ?_
                            refine JL.bin rfl rfl rfl (.some rfl rfl rfl hc359) rfl ?_
                            refine JL.move (.some rfl rfl rfl hc359) rfl ?_
                            refine JL.bin rfl rfl rfl (.some rfl rfl rfl hc359) rfl ?_
                            refine JL.neBool ub_4 rfl rfl (.some rfl rfl rfl hc359) rfl ?_
                            refine JL.pick_f (b := (((!first_191) || (!last_192)) || ((y14.1 == 1) != (some_193 == (y31.length : Int))))) rfl hc359 .none rfl ?_
                            exact hJ358 _ ⟨rfl, rfl, rfl, or_f hc359 rfl⟩
                        · rintro f ⟨hf2, hf3, hf15, hf160⟩
                          refine (JL.norm (i := 2) hf2 (JL.norm (i := 3) hf3 (JL.norm (i := 15) hf15 (JL.norm (i := 160) hf160 ?_))))
                          refine JL.done hQ ?_
                          refine JQ.go ?_
                          rcases ite_some hF with ⟨hc360, hF⟩ | ⟨hc360, hF⟩
                          · refine JC.cond_t (b := ((((!first_191) || (!last_192)) || ((y14.1 == 1) != (some_193 == (y31.length : Int)))) || ((y14.1 == 2) != (some_193 == 0)))) rfl hc360 ?_
                            refine JC.seq ?_
                            refine JC.region (by rfl) ?_
                            intro hQ
                            refine JL.assign .none rfl ?_
                            refine JL.done hQ ?_
                            refine JQ.go ?_
                            refine JC.ret ?_
                            refine JQ.ret_then ?_
                            obtain rfl := Option.some.inj hF
                            exact JQ.outS rfl (.tmp .nil) rfl
                          · refine JC.cond_f (b := ((((!first_191) || (!last_192)) || ((y14.1 == 1) != (some_193 == (y31.length : Int)))) || ((y14.1 == 2) != (some_193 == 0)))) rfl hc360 ?_
                            refine JC.skip ?_
                            refine JQ.go ?_
                            refine JC.seq ?_
                            refine JC.region (by rfl) ?_
                            intro hQ
                            refine JL.loadOwn 1 az_26 rfl rfl rfl .none rfl ?_
                            obtain ⟨y361, hy361, hF⟩ := bind_some hF
                            refine JL.callS (c_frames_First n H194 f_ f__v0 (SL.mono R_Section_mono (HSub.trans hs32 hs194) hf__0) y361 hy361) rfl en_28 .none rfl ?_
                            refine JL.move .none rfl ?_
                            refine JL.extract rfl rfl .none rfl ?_
                            refine JL.extract rfl rfl .none rfl ?_
                            refine JL.extract rfl rfl .none rfl ?_
                            refine JL.assign .none rfl ?_
                            refine JL.assign .none rfl ?_
                            refine JL.assign .none rfl ?_
                            refine JL.done hQ ?_
                            refine JQ.go ?_
                            refine JC.seq ?_
                            refine JC.seq ?_
                            refine JC.region (by rfl) ?_
                            intro hQ
                            refine JL.move .none rfl ?_
                            refine JL.bin rfl rfl rfl .none rfl ?_
                            refine JL.done hQ ?_
                            refine JQ.go ?_
                            refine JC.fresh (fun f => f 2 = .pointer (some ⟨b1, 0, none⟩) ∧ f 3 = .pointer (some ⟨b2, 0, none⟩) ∧ f 15 = .int .i64 some_193 ∧ f 19 = .int .i64 y361.1 ∧ f 20 = .int .i64 y361.2.1 ∧ f 21 = .int .i64 y361.2.2 ∧ f 168 = .bool (y361.2.2 != 0)) ⟨rfl, rfl, rfl, rfl, rfl, rfl, rfl⟩ ?_
                            rintro f ⟨hf2, hf3, hf15, hf19, hf20, hf21, hf168⟩
                            refine (JC.norm (i := 2) hf2 (JC.norm (i := 3) hf3 (JC.norm (i := 15) hf15 (JC.norm (i := 19) hf19 (JC.norm (i := 20) hf20 (JC.norm (i := 21) hf21 (JC.norm (i := 168) hf168 ?_)))))))
                            rcases ite_some hF with ⟨hc362, hF⟩ | ⟨hc362, hF⟩
                            · refine JC.cond_t (b := (y361.2.2 != 0)) rfl hc362 ?_
                              refine JC.seq ?_
                              refine JC.region (by rfl) ?_
                              intro hQ
                              refine JL.move .none rfl ?_
                              refine JL.bin rfl rfl rfl .none rfl ?_
                              refine JL.move .none rfl ?_
                              refine JL.cut 3 (fun f => f 174 = .bool ((y361.2.2 == 3) && (some_193 == 0))) ?_ ?_
                              · intro hJ363
                                rcases bcases (y361.2.2 == 3) with hc364 | hc364
                                · skip
                                  refine JL.move (.some rfl rfl rfl hc364) rfl ?_
                                  refine JL.bin rfl rfl rfl (.some rfl rfl rfl hc364) rfl ?_
                                  refine JL.pick_t (b := (y361.2.2 == 3)) rfl hc364 .none rfl ?_
                                  exact hJ363 _ (and_t hc364 rfl)
                                · skip
                                  refine JL.skip (.bool rfl rfl rfl hc364) rfl ?_
                                  refine JL.skip (.bool rfl rfl rfl hc364) rfl ?_
                                  refine JL.pick_f (b := (y361.2.2 == 3)) rfl hc364 .none rfl ?_
                                  exact hJ363 _ (and_f hc364 rfl)
                              · rintro f hf174
                                refine (JL.norm (i := 174) hf174 ?_)
                                refine JL.move .none rfl ?_
                                obtain ⟨p366, hp366, hF⟩ := bind_some hF
                                refine JL.cut 2 (fun f => f 177 = .bool p366) ?_ ?_
                                · intro hJ367
                                  rcases ite_some hp366 with ⟨hc368, hF⟩ | ⟨hc368, hF⟩
                                  · skip
                                    obtain ⟨y369, hy369, hF⟩ := bind_some hF
                                    refine JL.callS (c_law01_works n H194 y369 hy369) rfl en_12 (.some rfl rfl rfl hc368) rfl ?_
                                    refine JL.pick_t (b := ((y361.2.2 == 3) && (some_193 == 0))) rfl hc368 .none rfl ?_
                                    obtain rfl := Option.some.inj hF
                                    exact hJ367 _ (rfl)
                                  · skip
                                    refine JL.skip (.bool rfl rfl rfl hc368) rfl ?_
                                    refine JL.pick_f (b := ((y361.2.2 == 3) && (some_193 == 0))) rfl hc368 .none rfl ?_
                                    obtain rfl := Option.some.inj hF
                                    exact hJ367 _ (rfl)
                                · rintro f hf177
                                  refine (JL.norm (i := 177) hf177 ?_)
                                  refine JL.assign .none rfl ?_
                                  refine JL.done hQ ?_
                                  refine JQ.go ?_
                                  refine JC.ret ?_
                                  refine JQ.ret_then ?_
                                  obtain rfl := Option.some.inj hF
                                  exact JQ.outS rfl (.tmp .nil) rfl
                            · refine JC.cond_f (b := (y361.2.2 != 0)) rfl hc362 ?_
                              refine JC.skip ?_
                              refine JQ.go ?_
                              refine JC.seq ?_
                              refine JC.region (by rfl) ?_
                              intro hQ
                              refine JL.loadOwn 1 az_26 rfl rfl rfl .none rfl ?_
                              refine JL.move .none rfl ?_
                              refine JL.move .none rfl ?_
                              obtain ⟨y370, hy370, hF⟩ := bind_some hF
                              refine JL.callS (c_frames_Binds n H194 f_ f__v0 (SL.mono R_Section_mono (HSub.trans hs32 hs194) hf__0) y361.1 y361.2.1 y370 hy370) rfl en_20 .none rfl ?_
                              refine JL.move .none rfl ?_
                              refine JL.extract rfl rfl .none rfl ?_
                              refine JL.extract rfl rfl .none rfl ?_
                              refine JL.assign .none rfl ?_
                              refine JL.assign .none rfl ?_
                              refine JL.done hQ ?_
                              refine JQ.go ?_
                              refine JC.fresh (fun f => f 3 = .pointer (some ⟨b2, 0, none⟩) ∧ f 15 = .int .i64 some_193 ∧ f 19 = .int .i64 y361.1 ∧ f 20 = .int .i64 y361.2.1 ∧ f 22 = .int .i64 y370.1 ∧ f 23 = .int .i64 y370.2) ⟨rfl, rfl, rfl, rfl, rfl, rfl⟩ ?_
                              rintro f ⟨hf3, hf15, hf19, hf20, hf22, hf23⟩
                              refine (JC.norm (i := 3) hf3 (JC.norm (i := 15) hf15 (JC.norm (i := 19) hf19 (JC.norm (i := 20) hf20 (JC.norm (i := 22) hf22 (JC.norm (i := 23) hf23 ?_))))))
                              refine JC.seq ?_
                              refine JC.region (by rfl) ?_
                              intro hQ
                              refine JL.move .none rfl ?_
                              refine JL.bin rfl rfl rfl .none rfl ?_
                              refine JL.move .none rfl ?_
                              refine JL.cut 3 (fun f => f 3 = .pointer (some ⟨b2, 0, none⟩) ∧ f 15 = .int .i64 some_193 ∧ f 19 = .int .i64 y361.1 ∧ f 20 = .int .i64 y361.2.1 ∧ f 190 = .bool ((y370.2 == 0) && (y370.1 != 2))) ?_ ?_
                              · intro hJ371
                                rcases bcases (y370.2 == 0) with hc372 | hc372
                                · skip
                                  refine JL.move (.some rfl rfl rfl hc372) rfl ?_
                                  refine JL.bin rfl rfl rfl (.some rfl rfl rfl hc372) rfl ?_
                                  refine JL.pick_t (b := (y370.2 == 0)) rfl hc372 .none rfl ?_
                                  exact hJ371 _ ⟨rfl, rfl, rfl, rfl, and_t hc372 rfl⟩
                                · skip
                                  refine JL.skip (.bool rfl rfl rfl hc372) rfl ?_
                                  refine JL.skip (.bool rfl rfl rfl hc372) rfl ?_
                                  refine JL.pick_f (b := (y370.2 == 0)) rfl hc372 .none rfl ?_
                                  exact hJ371 _ ⟨rfl, rfl, rfl, rfl, and_f hc372 rfl⟩
                              · rintro f ⟨hf3, hf15, hf19, hf20, hf190⟩
                                refine (JL.norm (i := 3) hf3 (JL.norm (i := 15) hf15 (JL.norm (i := 19) hf19 (JL.norm (i := 20) hf20 (JL.norm (i := 190) hf190 ?_)))))
                                refine JL.move .none rfl ?_
                                refine JL.cut 21 (fun f => f 212 = .bool (((y370.2 == 0) && (y370.1 != 2)) && (((some_193 == 0) || (decide (x_.R < y361.2.1))) || ((x_.R == y361.2.1) && (decide (y361.1 ≤ x_.Section)))))) ?_ ?_
                                · intro hJ381
                                  rcases bcases ((y370.2 == 0) && (y370.1 != 2)) with hc382 | hc382
                                  · skip
                                    refine JL.move (.some rfl rfl rfl hc382) rfl ?_
                                    refine JL.bin rfl rfl rfl (.some rfl rfl rfl hc382) rfl ?_
                                    refine JL.move (.some rfl rfl rfl hc382) rfl ?_
                                    refine JL.cut 5 (fun f => f 3 = .pointer (some ⟨b2, 0, none⟩) ∧ f 19 = .int .i64 y361.1 ∧ f 20 = .int .i64 y361.2.1 ∧ f 191 = .bool ((y370.2 == 0) && (y370.1 != 2)) ∧ f 199 = .bool ((some_193 == 0) || (decide (x_.R < y361.2.1)))) ?_ ?_
                                    · intro hJ383
                                      rcases bcases (some_193 == 0) with hc384 | hc384
                                      · skip
                                        refine JL.skip (.bool rfl rfl rfl hc384) rfl ?_
                                        refine JL.skip (.bool rfl rfl rfl hc384) rfl ?_
                                        refine JL.skip (.bool rfl rfl rfl hc384) rfl ?_
                                        refine JL.skip (.bool rfl rfl rfl hc384) rfl ?_
                                        refine JL.pick_t (b := (some_193 == 0)) rfl hc384 (.some rfl rfl rfl hc382) rfl ?_
                                        exact hJ383 _ ⟨rfl, rfl, rfl, rfl, or_t hc384 rfl⟩
                                      · skip
                                        refine JL.fieldAddr fo_28_1 rfl (.some rfl rfl rfl hc384) rfl ?_
                                        refine JL.loadOwn 0 az_3 rfl rfl rfl (.some rfl rfl rfl hc384) rfl ?_
                                        refine JL.move (.some rfl rfl rfl hc384) rfl ?_
                                        refine JL.bin rfl rfl rfl (.some rfl rfl rfl hc384) rfl ?_
                                        refine JL.pick_f (b := (some_193 == 0)) rfl hc384 (.some rfl rfl rfl hc382) rfl ?_
                                        exact hJ383 _ ⟨rfl, rfl, rfl, rfl, or_f hc384 rfl⟩
                                    · rintro f ⟨hf3, hf19, hf20, hf191, hf199⟩
                                      refine (JL.norm (i := 3) hf3 (JL.norm (i := 19) hf19 (JL.norm (i := 20) hf20 (JL.norm (i := 191) hf191 (JL.norm (i := 199) hf199 ?_)))))
                                      refine JL.move (.some rfl rfl rfl hc382) rfl ?_
                                      refine JL.cut 11 (fun f => f 191 = .bool ((y370.2 == 0) && (y370.1 != 2)) ∧ f 211 = .bool (((some_193 == 0) || (decide (x_.R < y361.2.1))) || ((x_.R == y361.2.1) && (decide (y361.1 ≤ x_.Section))))) ?_ ?_
                                      · intro hJ387
                                        rcases bcases ((some_193 == 0) || (decide (x_.R < y361.2.1))) with hc388 | hc388
                                        · skip
                                          refine JL.skip (.bool rfl rfl rfl hc388) rfl ?_
                                          refine JL.skip (.bool rfl rfl rfl hc388) rfl ?_
                                          refine JL.skip (.bool rfl rfl rfl hc388) rfl ?_
                                          refine JL.skip (.bool rfl rfl rfl hc388) rfl ?_
                                          refine JL.skip (.bool rfl rfl rfl hc388) rfl ?_
                                          refine JL.skip (.no rfl rfl rfl) rfl ?_
                                          refine JL.skip (.no rfl rfl rfl) rfl ?_
                                          refine JL.skip (.no rfl rfl rfl) rfl ?_
                                          refine JL.skip (.no rfl rfl rfl) rfl ?_
                                          refine JL.skip (.bool rfl rfl rfl hc388) rfl ?_
                                          refine JL.pick_t (b := ((some_193 == 0) || (decide (x_.R < y361.2.1)))) rfl hc388 (.some rfl rfl rfl hc382) rfl ?_
                                          exact hJ387 _ ⟨rfl, or_t hc388 rfl⟩
                                        · skip
                                          refine JL.fieldAddr fo_28_1 rfl (.some rfl rfl rfl hc388) rfl ?_
                                          refine JL.loadOwn 0 az_3 rfl rfl rfl (.some rfl rfl rfl hc388) rfl ?_
                                          refine JL.move (.some rfl rfl rfl hc388) rfl ?_
                                          refine JL.bin rfl rfl rfl (.some rfl rfl rfl hc388) rfl ?_
                                          refine JL.move (.some rfl rfl rfl hc388) rfl ?_
                                          refine JL.cut 5 (fun f => f 191 = .bool ((y370.2 == 0) && (y370.1 != 2)) ∧ f 200 = .bool ((some_193 == 0) || (decide (x_.R < y361.2.1))) ∧ f 210 = .bool ((x_.R == y361.2.1) && (decide (y361.1 ≤ x_.Section)))) ?_ ?_
                                          · intro hJ389
                                            rcases bcases (x_.R == y361.2.1) with hc390 | hc390
                                            · skip
                                              refine JL.move (.some rfl rfl rfl hc390) rfl ?_
                                              refine JL.fieldAddr fo_28_0 rfl (.some rfl rfl rfl hc390) rfl ?_
                                              refine JL.loadOwn 0 az_3 rfl rfl rfl (.some rfl rfl rfl hc390) rfl ?_
                                              refine JL.bin rfl rfl rfl (.some rfl rfl rfl hc390) rfl ?_
                                              refine JL.pick_t (b := (x_.R == y361.2.1)) rfl hc390 (.some rfl rfl rfl hc388) rfl ?_
                                              exact hJ389 _ ⟨rfl, rfl, and_t hc390 rfl⟩
                                            · skip
                                              refine JL.skip (.bool rfl rfl rfl hc390) rfl ?_
                                              refine JL.skip (.bool rfl rfl rfl hc390) rfl ?_
                                              refine JL.skip (.bool rfl rfl rfl hc390) rfl ?_
                                              refine JL.skip (.bool rfl rfl rfl hc390) rfl ?_
                                              refine JL.pick_f (b := (x_.R == y361.2.1)) rfl hc390 (.some rfl rfl rfl hc388) rfl ?_
                                              exact hJ389 _ ⟨rfl, rfl, and_f hc390 rfl⟩
                                          · rintro f ⟨hf191, hf200, hf210⟩
                                            refine (JL.norm (i := 191) hf191 (JL.norm (i := 200) hf200 (JL.norm (i := 210) hf210 ?_)))
                                            refine JL.pick_f (b := ((some_193 == 0) || (decide (x_.R < y361.2.1)))) rfl hc388 (.some rfl rfl rfl hc382) rfl ?_
                                            exact hJ387 _ ⟨rfl, or_f hc388 rfl⟩
                                      · rintro f ⟨hf191, hf211⟩
                                        refine (JL.norm (i := 191) hf191 (JL.norm (i := 211) hf211 ?_))
                                        refine JL.pick_t (b := ((y370.2 == 0) && (y370.1 != 2))) rfl hc382 .none rfl ?_
                                        exact hJ381 _ (and_t hc382 rfl)
                                  · skip
                                    refine JL.skip (.bool rfl rfl rfl hc382) rfl ?_
                                    refine JL.skip (.bool rfl rfl rfl hc382) rfl ?_
                                    refine JL.skip (.bool rfl rfl rfl hc382) rfl ?_
                                    refine JL.skip (.no rfl rfl rfl) rfl ?_
                                    refine JL.skip (.no rfl rfl rfl) rfl ?_
                                    refine JL.skip (.no rfl rfl rfl) rfl ?_
                                    refine JL.skip (.no rfl rfl rfl) rfl ?_
                                    refine JL.skip (.bool rfl rfl rfl hc382) rfl ?_
                                    refine JL.skip (.bool rfl rfl rfl hc382) rfl ?_
                                    refine JL.skip (.no rfl rfl rfl) rfl ?_
                                    refine JL.skip (.no rfl rfl rfl) rfl ?_
                                    refine JL.skip (.no rfl rfl rfl) rfl ?_
                                    refine JL.skip (.no rfl rfl rfl) rfl ?_
                                    refine JL.skip (.no rfl rfl rfl) rfl ?_
                                    refine JL.skip (.no rfl rfl rfl) rfl ?_
                                    refine JL.skip (.no rfl rfl rfl) rfl ?_
                                    refine JL.skip (.no rfl rfl rfl) rfl ?_
                                    refine JL.skip (.no rfl rfl rfl) rfl ?_
                                    refine JL.skip (.no rfl rfl rfl) rfl ?_
                                    refine JL.skip (.bool rfl rfl rfl hc382) rfl ?_
                                    refine JL.pick_f (b := ((y370.2 == 0) && (y370.1 != 2))) rfl hc382 .none rfl ?_
                                    exact hJ381 _ (and_f hc382 rfl)
                                · rintro f hf212
                                  refine (JL.norm (i := 212) hf212 ?_)
                                  refine JL.move .none rfl ?_
                                  obtain ⟨p392, hp392, hF⟩ := bind_some hF
                                  refine JL.cut 2 (fun f => f 215 = .bool p392) ?_ ?_
                                  · intro hJ393
                                    rcases ite_some hp392 with ⟨hc394, hF⟩ | ⟨hc394, hF⟩
                                    · skip
                                      obtain ⟨y395, hy395, hF⟩ := bind_some hF
                                      refine JL.callS (c_law01_works n H194 y395 hy395) rfl en_12 (.some rfl rfl rfl hc394) rfl ?_
                                      refine JL.pick_t (b := (((y370.2 == 0) && (y370.1 != 2)) && (((some_193 == 0) || (decide (x_.R < y361.2.1))) || ((x_.R == y361.2.1) && (decide (y361.1 ≤ x_.Section)))))) rfl hc394 .none rfl ?_
                                      obtain rfl := Option.some.inj hF
                                      exact hJ393 _ (rfl)
                                    · skip
                                      refine JL.skip (.bool rfl rfl rfl hc394) rfl ?_
                                      refine JL.pick_f (b := (((y370.2 == 0) && (y370.1 != 2)) && (((some_193 == 0) || (decide (x_.R < y361.2.1))) || ((x_.R == y361.2.1) && (decide (y361.1 ≤ x_.Section)))))) rfl hc394 .none rfl ?_
                                      obtain rfl := Option.some.inj hF
                                      exact hJ393 _ (rfl)
                                  · rintro f hf215
                                    refine (JL.norm (i := 215) hf215 ?_)
                                    refine JL.assign .none rfl ?_
                                    refine JL.done hQ ?_
                                    refine JQ.go ?_
                                    refine JC.ret ?_
                                    obtain rfl := Option.some.inj hF
                                    exact JQ.outS rfl (.tmp .nil) rfl

end Go.Proofs.Ytmgnhaibbeinbaa
