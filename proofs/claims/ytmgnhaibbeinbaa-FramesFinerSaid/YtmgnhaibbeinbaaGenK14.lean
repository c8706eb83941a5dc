/-
  Printed by a program: functions of the translation as plain functions, and their contracts.
-/
import Derived.Test.YtmgnhaibbeinbaaGenK13
namespace Go.Proofs.Ytmgnhaibbeinbaa
open Go Go.RowKit Go.Dec
set_option linter.unusedVariables false
-- 8 ferrule/ferrulelaw01.FramesTrue
def F_law01_FramesTrue_s1 (n : Nat) (f_ : Frame) (t : List ref01_Pair) : Bool × Int × Int → Option ((Bool × Int × Int) ⊕ (Bool ⊕ (Bool × Int)))
  | (free_253, long_254, i_255) => if decide (i_255 < (t.length : Int)) = true then ((geti t i_255).bind fun y266 => (F_ref01_IsPair n f_ i_255 y266).bind fun y271 => if (!y271) = true then ((F_law01_works n).bind fun y273 => some (Sum.inr (Sum.inl y273))) else ((if free_253 = true then ((geti t i_255).bind fun y298 => (F_ref01_Free n f_ i_255 y298).bind fun y303 => some y303) else (some false) : Option Bool).bind fun p295 => (geti t i_255).bind fun y304 => some (Sum.inl (p295, (max long_254 y304.Arm), (w64 (i_255 + 1)))))) else (some (Sum.inr (Sum.inr (free_253, long_254))))
def F_law01_FramesTrue (n : Nat) (f_ : Frame) (t : List ref01_Pair) (x_ : law01_Ask) : Option Bool :=
  (F_law01_ready n f_).bind fun y3 => (if (!y3) = true then (some true) else ((F_law01_isAsk n f_ x_).bind fun y8 => some (!y8)) : Option Bool).bind fun p5 => if (p5 || ((t.length : Int) != (f_.Sections.length : Int))) = true then ((F_law01_works n).bind fun y12 => some y12) else ((loopO n (F_law01_FramesTrue_s1 n f_ t) (true, 0, 0)).bind fun r162 => match r162 with | .inl o => some o | .inr (free_159, long_160) => (F_frames_Cosine n f_ x_.Section x_.R).bind fun y309 => (F_frames_Binds n f_ x_.Section x_.R).bind fun y312 => (F_frames_Opens n f_).bind fun y313 => (F_frames_Turns n f_ x_.Section).bind fun y314 => (F_frames_Closes n f_).bind fun y315 => (F_frames_Distance n f_ x_.Section x_.R).bind fun y316 => if (((((((((y309.2.2 != 0) && (y309.2.2 != 3)) || (y312.2 != 0)) || (y313.2 != 0)) || (y314.2 != 0)) || (y315.2 != 0)) || (y316.2 != 0)) || (decide (y316.1 < 0))) || (decide (20000 < y316.1))) = true then (some false) else ((geti t x_.Section).bind fun y334 => (F_ref01_CosineOf n y316.1 y334).bind fun y339 => (if (y339.2 != (y309.2.2 == 0)) = true then (some true) else ((if y339.2 = true then ((F_law01_isFrac n y309.1).bind fun y398 => (if (!y398) = true then (some true) else ((F_law01_isFrac n y309.2.1).bind fun y403 => some (!y403)) : Option Bool).bind fun p400 => (if p400 = true then (some true) else ((F_ref01_Less n y339.1 y309.1).bind fun y408 => some y408) : Option Bool).bind fun p405 => (if p405 = true then (some true) else ((F_ref01_Less n y309.2.1 y339.1).bind fun y413 => some y413) : Option Bool).bind fun p410 => some p410) else (some false) : Option Bool).bind fun p395 => some p395) : Option Bool).bind fun p376 => if p376 = true then (some false) else ((geti t x_.Section).bind fun y421 => (F_ref01_BindsAt n f_ x_.Section x_.R y421).bind fun y426 => (F_law01_agrees n y312.1 y426).bind fun y455 => (if (!y455) = true then (some true) else ((F_law01_agrees n y313.1 free_159).bind fun y460 => some (!y460)) : Option Bool).bind fun p457 => (if p457 = true then (some true) else ((geti t x_.Section).bind fun y471 => (F_ref01_TurnsWith n f_ x_.Section y471).bind fun y476 => (F_law01_agrees n y314.1 y476).bind fun y477 => some (!y477)) : Option Bool).bind fun p468 => (if p468 = true then (some true) else ((F_law01_agrees n y315.1 (decide ((w64 (f_.Rod + long_160)) ≤ f_.Case))).bind fun y482 => some (!y482)) : Option Bool).bind fun p479 => if p479 = true then (some false) else ((F_frames_First n f_).bind fun y484 => if (y484.2.2 == 0) = true then ((if ((!y426) || (decide (x_.R ≤ y484.2.1))) = true then ((F_law01_works n).bind fun y492 => some y492) else (some false) : Option Bool).bind fun p489 => some p489) else ((if ((y484.2.2 == 3) && (!y426)) = true then ((F_law01_works n).bind fun y499 => some y499) else (some false) : Option Bool).bind fun p496 => some p496)))))
set_option maxRecDepth 100000 in
set_option maxHeartbeats 40000000 in
theorem c_law01_FramesTrue (n : Nat) (H : Hp) (f_ : Frame) (f__v0 : Value) (hf__0 : SL H 7 R_Section f__v0 f_.Sections) (t : List ref01_Pair) (t_v0 : Value) (ht_0 : SL H 2 R_ref01_Pair t_v0 t) (x_ : law01_Ask) (y : Bool) (hF : F_law01_FramesTrue n f_ t x_ = some y) : SC Try.prog 8 [.agg [f__v0, .int .i64 f_.Low, .int .i64 f_.High, .int .i64 f_.Ease.Num, .int .i64 f_.Ease.Den, .int .i64 f_.Rod, .int .i64 f_.Case].toArray, t_v0, .agg [.int .i64 x_.Section, .int .i64 x_.R].toArray] (.bool y) H := by
  rw [F_law01_FramesTrue] at hF
  refine SC.of (N := 270) Try.func8 rfl rfl rfl fun w => ?_
  refine JC.seq ?_
  refine JC.region (by rfl) ?_
  intro hQ
  refine JL.box (cs := [f__v0, .int .i64 f_.Low, .int .i64 f_.High, .int .i64 f_.Ease.Num, .int .i64 f_.Ease.Den, .int .i64 f_.Rod, .int .i64 f_.Case]) rfl .none rfl ?_
  intro b1
  refine JL.box (cs := [.int .i64 x_.Section, .int .i64 x_.R]) rfl .none rfl ?_
  intro b2
  refine JL.assign .none rfl ?_
  refine JL.done hQ ?_
  refine JQ.go ?_
  refine JC.seq ?_
  refine JC.seq ?_
  refine JC.region (by rfl) ?_
  intro hQ
  refine JL.loadOwn 1 az_26 rfl rfl rfl .none rfl ?_
  obtain ⟨y3, hy3, hF⟩ := bind_some hF
  refine JL.callS (c_law01_ready n H f_ f__v0 hf__0 y3 hy3) rfl en_23 .none rfl ?_
  refine JL.not rfl .none rfl ?_
  refine JL.move .none rfl ?_
  obtain ⟨p5, hp5, hF⟩ := bind_some hF
  refine JL.cut 5 (fun f => f 1 = t_v0 ∧ f 3 = .pointer (some ⟨b1, 0, none⟩) ∧ f 5 = .pointer (some ⟨b2, 0, none⟩) ∧ f 37 = .bool p5) ?_ ?_
  · intro hJ6
    rcases ite_some hp5 with ⟨hc7, hF⟩ | ⟨hc7, hF⟩
    · skip
      refine JL.skip (.bool rfl rfl rfl hc7) rfl ?_
      refine JL.skip (.bool rfl rfl rfl hc7) rfl ?_
      refine JL.skip (.bool rfl rfl rfl hc7) rfl ?_
      refine JL.skip (.bool rfl rfl rfl hc7) rfl ?_
      refine JL.pick_t (b := (!y3)) rfl hc7 .none rfl ?_
      obtain rfl := Option.some.inj hF
      exact hJ6 _ ⟨rfl, rfl, rfl, rfl⟩
    · skip
      refine JL.loadOwn 1 az_26 rfl rfl rfl (.some rfl rfl rfl hc7) rfl ?_
      refine JL.loadOwn 0 az_28 rfl rfl rfl (.some rfl rfl rfl hc7) rfl ?_
      obtain ⟨y8, hy8, hF⟩ := bind_some hF
      refine JL.callS (c_law01_isAsk n H f_ f__v0 hf__0 x_ y8 hy8) rfl en_24 (.some rfl rfl rfl hc7) rfl ?_
      refine JL.not rfl (.some rfl rfl rfl hc7) rfl ?_
      refine JL.pick_f (b := (!y3)) rfl hc7 .none rfl ?_
      obtain rfl := Option.some.inj hF
      exact hJ6 _ ⟨rfl, rfl, rfl, rfl⟩
  · rintro f ⟨hf1, hf3, hf5, hf37⟩
    refine (JL.norm (i := 1) hf1 (JL.norm (i := 3) hf3 (JL.norm (i := 5) hf5 (JL.norm (i := 37) hf37 ?_))))
    refine JL.move .none rfl ?_
    refine JL.cut 7 (fun f => f 1 = t_v0 ∧ f 3 = .pointer (some ⟨b1, 0, none⟩) ∧ f 5 = .pointer (some ⟨b2, 0, none⟩) ∧ f 45 = .bool (p5 || ((t.length : Int) != (f_.Sections.length : Int)))) ?_ ?_
    · intro hJ9
      rcases bcases p5 with hc10 | hc10
      · skip
        refine JL.skip (.bool rfl rfl rfl hc10) rfl ?_
        refine JL.skip (.bool rfl rfl rfl hc10) rfl ?_
        refine JL.skip (.bool rfl rfl rfl hc10) rfl ?_
        refine JL.skip (.bool rfl rfl rfl hc10) rfl ?_
        refine JL.skip (.bool rfl rfl rfl hc10) rfl ?_
        refine JL.skip (.bool rfl rfl rfl hc10) rfl ?_
        refine JL.pick_t (b := p5) rfl hc10 .none rfl ?_
        exact hJ9 _ ⟨rfl, rfl, rfl, or_t hc10 rfl⟩
      · skip
        refine JL.move (.some rfl rfl rfl hc10) rfl ?_
        refine JL.lenSL (R := R_ref01_Pair) ul_40 ht_0 (.some rfl rfl rfl hc10) rfl ?_
        refine JL.fieldAddr fo_26_0 rfl (.some rfl rfl rfl hc10) rfl ?_
        refine JL.loadOwn 1 az_22 rfl rfl rfl (.some rfl rfl rfl hc10) rfl ?_
        refine JL.lenSL (R := R_Section) ul_22 hf__0 (.some rfl rfl rfl hc10) rfl ?_
        refine JL.bin rfl rfl rfl (.some rfl rfl rfl hc10) rfl ?_
        refine JL.pick_f (b := p5) rfl hc10 .none rfl ?_
        exact hJ9 _ ⟨rfl, rfl, rfl, or_f hc10 rfl⟩
    · rintro f ⟨hf1, hf3, hf5, hf45⟩
      refine (JL.norm (i := 1) hf1 (JL.norm (i := 3) hf3 (JL.norm (i := 5) hf5 (JL.norm (i := 45) hf45 ?_))))
      refine JL.done hQ ?_
      refine JQ.go ?_
      rcases ite_some hF with ⟨hc11, hF⟩ | ⟨hc11, hF⟩
      · refine JC.cond_t (b := (p5 || ((t.length : Int) != (f_.Sections.length : Int)))) rfl hc11 ?_
        refine JC.seq ?_
        refine JC.region (by rfl) ?_
        intro hQ
        obtain ⟨y12, hy12, hF⟩ := bind_some hF
        refine JL.callS (c_law01_works n H y12 hy12) rfl en_12 .none rfl ?_
        refine JL.assign .none rfl ?_
        refine JL.done hQ ?_
        refine JQ.go ?_
        refine JC.ret ?_
        refine JQ.ret_then ?_
        obtain rfl := Option.some.inj hF
        exact JQ.outS rfl (.tmp .nil) rfl
      · refine JC.cond_f (b := (p5 || ((t.length : Int) != (f_.Sections.length : Int)))) rfl hc11 ?_
        refine JC.skip ?_
        refine JQ.go ?_
        refine JC.seq ?_
        refine JC.region (by rfl) ?_
        intro hQ
        refine JL.assign .none rfl ?_
        refine JL.assign .none rfl ?_
        refine JL.done hQ ?_
        refine JQ.go ?_
        refine JC.seq ?_
        refine JC.seq ?_
        refine JC.region (by rfl) ?_
        intro hQ
        refine JL.assign .none rfl ?_
        refine JL.done hQ ?_
        refine JQ.go ?_
        obtain ⟨r162, hlr162, hKr162⟩ := bind_some hF
        refine JC.join (fun (x : Bool × Int) H161 f bs gs => match x with | (free_159, long_160) => f 1 = t_v0 ∧ f 3 = .pointer (some ⟨b1, 0, none⟩) ∧ f 5 = .pointer (some ⟨b2, 0, none⟩) ∧ f 7 = .bool free_159 ∧ f 8 = .int .i64 long_160 ∧ bs = [(b2, .cells [.int .i64 x_.Section, .int .i64 x_.R].toArray 28), (b1, .cells [f__v0, .int .i64 f_.Low, .int .i64 f_.High, .int .i64 f_.Ease.Num, .int .i64 f_.Ease.Den, .int .i64 f_.Rod, .int .i64 f_.Case].toArray 26)] ∧ gs = [] ∧ HSub H H161 ∧ Sum.inr (free_159, long_160) = r162) ?_ ?_
        · skip
          refine JC.block ?_
          refine JC.loop hlr162 (fun (x : Bool × Int × Int) H256 f bs gs => match x with | (free_253, long_254, i_255) => f 1 = t_v0 ∧ f 3 = .pointer (some ⟨b1, 0, none⟩) ∧ f 5 = .pointer (some ⟨b2, 0, none⟩) ∧ f 7 = .bool free_253 ∧ f 8 = .int .i64 long_254 ∧ f 9 = .int .i64 i_255 ∧ bs = [(b2, .cells [.int .i64 x_.Section, .int .i64 x_.R].toArray 28), (b1, .cells [f__v0, .int .i64 f_.Low, .int .i64 f_.High, .int .i64 f_.Ease.Num, .int .i64 f_.Ease.Den, .int .i64 f_.Rod, .int .i64 f_.Case].toArray 26)] ∧ gs = [] ∧ HSub H H256) ⟨rfl, rfl, rfl, rfl, rfl, rfl, rfl, rfl, (HSub.refl _)⟩ ?_
          rintro ⟨free_253, long_254, i_255⟩ x258 H256 f bs gs ⟨hf1, hf3, hf5, hf7, hf8, hf9, rfl, rfl, hs256⟩ hF hr257
          rw [F_law01_FramesTrue_s1] at hF
          refine (JC.norm (i := 1) hf1 (JC.norm (i := 3) hf3 (JC.norm (i := 5) hf5 (JC.norm (i := 7) hf7 (JC.norm (i := 8) hf8 (JC.norm (i := 9) hf9 ?_))))))
          refine JC.seq ?_
          refine JC.seq ?_
          refine JC.region (by rfl) ?_
          intro hQ
          refine JL.move .none rfl ?_
          refine JL.move .none rfl ?_
          refine JL.lenSL (R := R_ref01_Pair) ul_40 (SL.mono R_ref01_Pair_mono hs256 ht_0) .none rfl ?_
          refine JL.bin rfl rfl rfl .none rfl ?_
          refine JL.done hQ ?_
          refine JQ.go ?_
          rcases ite_some hF with ⟨hc259, hF⟩ | ⟨hc259, hF⟩
          · refine JC.cond_t (b := decide (i_255 < (t.length : Int))) rfl hc259 ?_
            refine JC.skip ?_
            refine JQ.go ?_
            refine JC.seq ?_
            refine JC.block ?_
            refine JC.seq ?_
            refine JC.seq ?_
            refine JC.draw (by rfl) mo_ (by kernel_rfl) ?_
            intro hQ
            refine JL.loadOwn 1 az_26 rfl rfl rfl .none rfl ?_
            refine JL.move .none rfl ?_
            refine JL.move .none rfl ?_
            refine JL.move .none rfl ?_
            obtain ⟨y266, hy266, hF⟩ := bind_some hF
            refine JL.indexSL (R := R_ref01_Pair) sl_40 (SL.mono R_ref01_Pair_mono hs256 ht_0) rfl hy266 .none rfl ?_
            rintro b267 o268 cs269 hc270 - rfl
            refine JL.loadH 0 az_45 rfl hc270 rfl .none rfl ?_
            obtain ⟨y271, hy271, hF⟩ := bind_some hF
            refine JL.callS (c_ref01_IsPair n H256 f_ f__v0 (SL.mono R_Section_mono hs256 hf__0) i_255 y266 y271 hy271) rfl en_34 .none rfl ?_
            refine JL.not rfl .none rfl ?_
            refine JL.doneQ hQ ?_
            refine JQ.go ?_
            refine JC.fresh (fun f => f 1 = t_v0 ∧ f 3 = .pointer (some ⟨b1, 0, none⟩) ∧ f 5 = .pointer (some ⟨b2, 0, none⟩) ∧ f 7 = .bool free_253 ∧ f 8 = .int .i64 long_254 ∧ f 9 = .int .i64 i_255 ∧ f 60 = .bool (!y271)) ⟨rfl, rfl, rfl, rfl, rfl, rfl, rfl⟩ ?_
            rintro f ⟨hf1, hf3, hf5, hf7, hf8, hf9, hf60⟩
            refine (JC.norm (i := 1) hf1 (JC.norm (i := 3) hf3 (JC.norm (i := 5) hf5 (JC.norm (i := 7) hf7 (JC.norm (i := 8) hf8 (JC.norm (i := 9) hf9 (JC.norm (i := 60) hf60 ?_)))))))
            rcases ite_some hF with ⟨hc272, hF⟩ | ⟨hc272, hF⟩
            · refine JC.cond_t (b := (!y271)) rfl hc272 ?_
              refine JC.seq ?_
              refine JC.region (by rfl) ?_
              intro hQ
              obtain ⟨y273, hy273, hF⟩ := bind_some hF
              refine JL.callS (c_law01_works n H256 y273 hy273) rfl en_12 .none rfl ?_
              refine JL.assign .none rfl ?_
              refine JL.done hQ ?_
              refine JQ.go ?_
              refine JC.ret ?_
              refine JQ.ret_then ?_
              refine JQ.ret_block ?_
              refine JQ.ret_then ?_
              refine JQ.ret_then ?_
              refine JQ.ret_block ?_
              refine JQ.ret_join ?_
              refine JQ.ret_then ?_
              obtain rfl := Option.some.inj hF
              have ehr257 := hr257 _ rfl
              subst ehr257
              have hF := hKr162
              try dsimp only at hF
              obtain rfl := Option.some.inj hF
              exact JQ.outS rfl (.tmp .nil) rfl
            · refine JC.cond_f (b := (!y271)) rfl hc272 ?_
              refine JC.skip ?_
              refine JQ.go ?_
              refine JC.seq ?_
              refine JC.draw (by rfl) mo_ (by kernel_rfl) ?_
              intro hQ
              refine JL.move .none rfl ?_
              refine JL.move .none rfl ?_
              obtain ⟨p295, hp295, hF⟩ := bind_some hF
              refine JL.cut 8 (fun f => f 1 = t_v0 ∧ f 3 = .pointer (some ⟨b1, 0, none⟩) ∧ f 5 = .pointer (some ⟨b2, 0, none⟩) ∧ f 8 = .int .i64 long_254 ∧ f 9 = .int .i64 i_255 ∧ f 71 = .bool p295) ?_ ?_
              · intro hJ296
                rcases ite_some hp295 with ⟨hc297, hF⟩ | ⟨hc297, hF⟩
                · skip
                  refine JL.loadOwn 1 az_26 rfl rfl rfl (.some rfl rfl rfl hc297) rfl ?_
                  refine JL.move (.some rfl rfl rfl hc297) rfl ?_
                  refine JL.move (.some rfl rfl rfl hc297) rfl ?_
                  refine JL.move (.some rfl rfl rfl hc297) rfl ?_
                  obtain ⟨y298, hy298, hF⟩ := bind_some hF
                  refine JL.indexSL (R := R_ref01_Pair) sl_40 (SL.mono R_ref01_Pair_mono hs256 ht_0) rfl hy298 (.some rfl rfl rfl hc297) rfl ?_
                  rintro b299 o300 cs301 hc302 - rfl
                  refine JL.loadH 0 az_45 rfl hc302 rfl (.some rfl rfl rfl hc297) rfl ?_
                  obtain ⟨y303, hy303, hF⟩ := bind_some hF
                  refine JL.callS (c_ref01_Free n H256 f_ f__v0 (SL.mono R_Section_mono hs256 hf__0) i_255 y298 y303 hy303) rfl en_35 (.some rfl rfl rfl hc297) rfl ?_
                  refine JL.pick_t (b := free_253) rfl hc297 .none rfl ?_
                  obtain rfl := Option.some.inj hF
                  exact hJ296 _ ⟨rfl, rfl, rfl, rfl, rfl, rfl⟩
                · skip
                  refine JL.skip (.bool rfl rfl rfl hc297) rfl ?_
                  refine JL.skip (.bool rfl rfl rfl hc297) rfl ?_
                  refine JL.skip (.bool rfl rfl rfl hc297) rfl ?_
                  refine JL.skip (.bool rfl rfl rfl hc297) rfl ?_
                  refine JL.skip (.bool rfl rfl rfl hc297) rfl ?_
                  refine JL.skip (.bool rfl rfl rfl hc297) rfl ?_
                  refine JL.skip (.bool rfl rfl rfl hc297) rfl ?_
                  refine JL.pick_f (b := free_253) rfl hc297 .none rfl ?_
                  obtain rfl := Option.some.inj hF
                  exact hJ296 _ ⟨rfl, rfl, rfl, rfl, rfl, rfl⟩
              · rintro f ⟨hf1, hf3, hf5, hf8, hf9, hf71⟩
                refine (JL.norm (i := 1) hf1 (JL.norm (i := 3) hf3 (JL.norm (i := 5) hf5 (JL.norm (i := 8) hf8 (JL.norm (i := 9) hf9 (JL.norm (i := 71) hf71 ?_))))))
                refine JL.assign .none rfl ?_
                refine JL.doneQ hQ ?_
                refine JQ.go ?_
                refine JC.region (by rfl) ?_
                intro hQ
                refine JL.move .none rfl ?_
                refine JL.move .none rfl ?_
                refine JL.move .none rfl ?_
                obtain ⟨y304, hy304, hF⟩ := bind_some hF
                refine JL.indexSL (R := R_ref01_Pair) sl_40 (SL.mono R_ref01_Pair_mono hs256 ht_0) rfl hy304 .none rfl ?_
                rintro b305 o306 cs307 hc308 - rfl
                refine JL.fieldAddr fo_45_0 rfl .none rfl ?_
                refine JL.loadH 0 az_3 rfl hc308 rfl .none rfl ?_
                refine JL.max rfl rfl .none rfl ?_
                refine JL.assign .none rfl ?_
                refine JL.done hQ ?_
                refine JQ.normal_block ?_
                refine JQ.go ?_
                refine JC.fresh (fun f => f 1 = t_v0 ∧ f 3 = .pointer (some ⟨b1, 0, none⟩) ∧ f 5 = .pointer (some ⟨b2, 0, none⟩) ∧ f 7 = .bool p295 ∧ f 8 = .int .i64 (max long_254 y304.Arm) ∧ f 9 = .int .i64 i_255) ⟨rfl, rfl, rfl, rfl, rfl, rfl⟩ ?_
                rintro f ⟨hf1, hf3, hf5, hf7, hf8, hf9⟩
                refine (JC.norm (i := 1) hf1 (JC.norm (i := 3) hf3 (JC.norm (i := 5) hf5 (JC.norm (i := 7) hf7 (JC.norm (i := 8) hf8 (JC.norm (i := 9) hf9 ?_))))))
                refine JC.region (by rfl) ?_
                intro hQ
                refine JL.move .none rfl ?_
                refine JL.bin rfl rfl rfl .none rfl ?_
                refine JL.assign .none rfl ?_
                refine JL.done hQ ?_
                obtain rfl := Option.some.inj hF
                exact JQ.next rfl ⟨rfl, rfl, rfl, rfl, rfl, rfl, rfl, rfl, hs256⟩
          · refine JC.cond_f (b := decide (i_255 < (t.length : Int))) rfl hc259 ?_
            refine JC.exit ?_
            refine JQ.exit_then ?_
            refine JQ.exit_then ?_
            refine JQ.exit_block ?_
            obtain rfl := Option.some.inj hF
            have ehr257 := hr257 _ rfl
            subst ehr257
            exact JQ.join (free_253, long_254) ⟨rfl, rfl, rfl, rfl, rfl, rfl, rfl, hs256, rfl⟩
        · rintro ⟨free_159, long_160⟩ H161 f bs gs ⟨hf1, hf3, hf5, hf7, hf8, rfl, rfl, hs161, rfl⟩
          have hF := hKr162
          try dsimp only at hF
          refine (JQ.norm (i := 1) hf1 (JQ.norm (i := 3) hf3 (JQ.norm (i := 5) hf5 (JQ.norm (i := 7) hf7 (JQ.norm (i := 8) hf8 ?_)))))
          refine JQ.go ?_
          refine JC.seq ?_
          refine JC.region (by rfl) ?_
          intro hQ
          refine JL.loadOwn 1 az_26 rfl rfl rfl .none rfl ?_
          refine JL.fieldAddr fo_28_0 rfl .none rfl ?_
          refine JL.loadOwn 0 az_3 rfl rfl rfl .none rfl ?_
          refine JL.fieldAddr fo_28_1 rfl .none rfl ?_
          refine JL.loadOwn 0 az_3 rfl rfl rfl .none rfl ?_
          obtain ⟨y309, hy309, hF⟩ := bind_some hF
          refine JL.callS (c_frames_Cosine n H161 f_ f__v0 (SL.mono R_Section_mono hs161 hf__0) x_.Section x_.R y309 hy309) rfl en_18 .none rfl ?_
          refine JL.move .none rfl ?_
          refine JL.extract rfl rfl .none rfl ?_
          refine JL.extract rfl rfl .none rfl ?_
          refine JL.extract rfl rfl .none rfl ?_
          refine JL.alloc ze_24 .none rfl ?_
          intro b310
          refine JL.alloc ze_24 .none rfl ?_
          intro b311
          refine JL.storeOwn 1 (cs := [.int .i64 y309.1.Num, .int .i64 y309.1.Den]) az_24 rfl rfl rfl (one_cons rfl (one_cons rfl one_nil)) rfl rfl .none ?_
          refine JL.storeOwn 0 (cs := [.int .i64 y309.2.1.Num, .int .i64 y309.2.1.Den]) az_24 rfl rfl rfl (one_cons rfl (one_cons rfl one_nil)) rfl rfl .none ?_
          refine JL.assign .none rfl ?_
          refine JL.done hQ ?_
          refine JQ.go ?_
          refine JC.fresh (fun f => f 1 = t_v0 ∧ f 3 = .pointer (some ⟨b1, 0, none⟩) ∧ f 5 = .pointer (some ⟨b2, 0, none⟩) ∧ f 7 = .bool free_159 ∧ f 8 = .int .i64 long_160 ∧ f 10 = .pointer (some ⟨b310, 0, none⟩) ∧ f 11 = .pointer (some ⟨b311, 0, none⟩) ∧ f 12 = .int .i64 y309.2.2) ⟨rfl, rfl, rfl, rfl, rfl, rfl, rfl, rfl⟩ ?_
          rintro f ⟨hf1, hf3, hf5, hf7, hf8, hf10, hf11, hf12⟩
          refine (JC.norm (i := 1) hf1 (JC.norm (i := 3) hf3 (JC.norm (i := 5) hf5 (JC.norm (i := 7) hf7 (JC.norm (i := 8) hf8 (JC.norm (i := 10) hf10 (JC.norm (i := 11) hf11 (JC.norm (i := 12) hf12 ?_))))))))
          refine JC.seq ?_
          refine JC.region (by rfl) ?_
          intro hQ
          refine JL.loadOwn 3 az_26 rfl rfl rfl .none rfl ?_
          refine JL.fieldAddr fo_28_0 rfl .none rfl ?_
          refine JL.loadOwn 2 az_3 rfl rfl rfl .none rfl ?_
          refine JL.fieldAddr fo_28_1 rfl .none rfl ?_
          refine JL.loadOwn 2 az_3 rfl rfl rfl .none rfl ?_
          obtain ⟨y312, hy312, hF⟩ := bind_some hF
          refine JL.callS (c_frames_Binds n H161 f_ f__v0 (SL.mono R_Section_mono hs161 hf__0) x_.Section x_.R y312 hy312) rfl en_20 .none rfl ?_
          refine JL.move .none rfl ?_
          refine JL.extract rfl rfl .none rfl ?_
          refine JL.extract rfl rfl .none rfl ?_
          refine JL.assign .none rfl ?_
          refine JL.assign .none rfl ?_
          refine JL.done hQ ?_
          refine JQ.go ?_
          refine JC.fresh (fun f => f 1 = t_v0 ∧ f 3 = .pointer (some ⟨b1, 0, none⟩) ∧ f 5 = .pointer (some ⟨b2, 0, none⟩) ∧ f 7 = .bool free_159 ∧ f 8 = .int .i64 long_160 ∧ f 10 = .pointer (some ⟨b310, 0, none⟩) ∧ f 11 = .pointer (some ⟨b311, 0, none⟩) ∧ f 12 = .int .i64 y309.2.2 ∧ f 13 = .int .i64 y312.1 ∧ f 14 = .int .i64 y312.2) ⟨rfl, rfl, rfl, rfl, rfl, rfl, rfl, rfl, rfl, rfl⟩ ?_
          rintro f ⟨hf1, hf3, hf5, hf7, hf8, hf10, hf11, hf12, hf13, hf14⟩
          refine (JC.norm (i := 1) hf1 (JC.norm (i := 3) hf3 (JC.norm (i := 5) hf5 (JC.norm (i := 7) hf7 (JC.norm (i := 8) hf8 (JC.norm (i := 10) hf10 (JC.norm (i := 11) hf11 (JC.norm (i := 12) hf12 (JC.norm (i := 13) hf13 (JC.norm (i := 14) hf14 ?_))))))))))
          refine JC.seq ?_
          refine JC.region (by rfl) ?_
          intro hQ
          refine JL.loadOwn 3 az_26 rfl rfl rfl .none rfl ?_
          obtain ⟨y313, hy313, hF⟩ := bind_some hF
          refine JL.callS (c_frames_Opens n H161 f_ f__v0 (SL.mono R_Section_mono hs161 hf__0) y313 hy313) rfl en_30 .none rfl ?_
          refine JL.move .none rfl ?_
          refine JL.extract rfl rfl .none rfl ?_
          refine JL.extract rfl rfl .none rfl ?_
          refine JL.assign .none rfl ?_
          refine JL.assign .none rfl ?_
          refine JL.done hQ ?_
          refine JQ.go ?_
          refine JC.seq ?_
          refine JC.region (by rfl) ?_
          intro hQ
          refine JL.loadOwn 3 az_26 rfl rfl rfl .none rfl ?_
          refine JL.fieldAddr fo_28_0 rfl .none rfl ?_
          refine JL.loadOwn 2 az_3 rfl rfl rfl .none rfl ?_
          obtain ⟨y314, hy314, hF⟩ := bind_some hF
          refine JL.callS (c_frames_Turns n H161 f_ f__v0 (SL.mono R_Section_mono hs161 hf__0) x_.Section y314 hy314) rfl en_33 .none rfl ?_
          refine JL.move .none rfl ?_
          refine JL.extract rfl rfl .none rfl ?_
          refine JL.extract rfl rfl .none rfl ?_
          refine JL.assign .none rfl ?_
          refine JL.assign .none rfl ?_
          refine JL.done hQ ?_
          refine JQ.go ?_
          refine JC.fresh (fun f => f 1 = t_v0 ∧ f 3 = .pointer (some ⟨b1, 0, none⟩) ∧ f 5 = .pointer (some ⟨b2, 0, none⟩) ∧ f 7 = .bool free_159 ∧ f 8 = .int .i64 long_160 ∧ f 10 = .pointer (some ⟨b310, 0, none⟩) ∧ f 11 = .pointer (some ⟨b311, 0, none⟩) ∧ f 12 = .int .i64 y309.2.2 ∧ f 13 = .int .i64 y312.1 ∧ f 14 = .int .i64 y312.2 ∧ f 15 = .int .i64 y313.1 ∧ f 16 = .int .i64 y313.2 ∧ f 17 = .int .i64 y314.1 ∧ f 18 = .int .i64 y314.2) ⟨rfl, rfl, rfl, rfl, rfl, rfl, rfl, rfl, rfl, rfl, rfl, rfl, rfl, rfl⟩ ?_
          rintro f ⟨hf1, hf3, hf5, hf7, hf8, hf10, hf11, hf12, hf13, hf14, hf15, hf16, hf17, hf18⟩
          refine (JC.norm (i := 1) hf1 (JC.norm (i := 3) hf3 (JC.norm (i := 5) hf5 (JC.norm (i := 7) hf7 (JC.norm (i := 8) hf8 (JC.norm (i := 10) hf10 (JC.norm (i := 11) hf11 (JC.norm (i := 12) hf12 (JC.norm (i := 13) hf13 (JC.norm (i := 14) hf14 (JC.norm (i := 15) hf15 (JC.norm (i := 16) hf16 (JC.norm (i := 17) hf17 (JC.norm (i := 18) hf18 ?_))))))))))))))
          refine JC.seq ?_
          refine JC.region (by rfl) ?_
          intro hQ
          refine JL.loadOwn 3 az_26 rfl rfl rfl .none rfl ?_
          obtain ⟨y315, hy315, hF⟩ := bind_some hF
          refine JL.callS (c_frames_Closes n H161 f_ f__v0 (SL.mono R_Section_mono hs161 hf__0) y315 hy315) rfl en_36 .none rfl ?_
          refine JL.move .none rfl ?_
          refine JL.extract rfl rfl .none rfl ?_
          refine JL.extract rfl rfl .none rfl ?_
          refine JL.assign .none rfl ?_
          refine JL.assign .none rfl ?_
          refine JL.done hQ ?_
          refine JQ.go ?_
          refine JC.seq ?_
          refine JC.region (by rfl) ?_
          intro hQ
          refine JL.loadOwn 3 az_26 rfl rfl rfl .none rfl ?_
          refine JL.fieldAddr fo_28_0 rfl .none rfl ?_
          refine JL.loadOwn 2 az_3 rfl rfl rfl .none rfl ?_
          refine JL.fieldAddr fo_28_1 rfl .none rfl ?_
          refine JL.loadOwn 2 az_3 rfl rfl rfl .none rfl ?_
          obtain ⟨y316, hy316, hF⟩ := bind_some hF
          refine JL.callS (c_frames_Distance n H161 f_ f__v0 (SL.mono R_Section_mono hs161 hf__0) x_.Section x_.R y316 hy316) rfl en_16 .none rfl ?_
          refine JL.move .none rfl ?_
          refine JL.extract rfl rfl .none rfl ?_
          refine JL.extract rfl rfl .none rfl ?_
          refine JL.assign .none rfl ?_
          refine JL.assign .none rfl ?_
          refine JL.done hQ ?_
          refine JQ.go ?_
          refine JC.fresh (fun f => f 1 = t_v0 ∧ f 3 = .pointer (some ⟨b1, 0, none⟩) ∧ f 5 = .pointer (some ⟨b2, 0, none⟩) ∧ f 7 = .bool free_159 ∧ f 8 = .int .i64 long_160 ∧ f 10 = .pointer (some ⟨b310, 0, none⟩) ∧ f 11 = .pointer (some ⟨b311, 0, none⟩) ∧ f 12 = .int .i64 y309.2.2 ∧ f 13 = .int .i64 y312.1 ∧ f 14 = .int .i64 y312.2 ∧ f 15 = .int .i64 y313.1 ∧ f 16 = .int .i64 y313.2 ∧ f 17 = .int .i64 y314.1 ∧ f 18 = .int .i64 y314.2 ∧ f 19 = .int .i64 y315.1 ∧ f 20 = .int .i64 y315.2 ∧ f 21 = .int .i64 y316.1 ∧ f 22 = .int .i64 y316.2) ⟨rfl, rfl, rfl, rfl, rfl, rfl, rfl, rfl, rfl, rfl, rfl, rfl, rfl, rfl, rfl, rfl, rfl, rfl⟩ ?_
          rintro f ⟨hf1, hf3, hf5, hf7, hf8, hf10, hf11, hf12, hf13, hf14, hf15, hf16, hf17, hf18, hf19, hf20, hf21, hf22⟩
          refine (JC.norm (i := 1) hf1 (JC.norm (i := 3) hf3 (JC.norm (i := 5) hf5 (JC.norm (i := 7) hf7 (JC.norm (i := 8) hf8 (JC.norm (i := 10) hf10 (JC.norm (i := 11) hf11 (JC.norm (i := 12) hf12 (JC.norm (i := 13) hf13 (JC.norm (i := 14) hf14 (JC.norm (i := 15) hf15 (JC.norm (i := 16) hf16 (JC.norm (i := 17) hf17 (JC.norm (i := 18) hf18 (JC.norm (i := 19) hf19 (JC.norm (i := 20) hf20 (JC.norm (i := 21) hf21 (JC.norm (i := 22) hf22 ?_))))))))))))))))))
          refine JC.seq ?_
          refine JC.seq ?_
          refine JC.region (by rfl) ?_
          intro hQ
          refine JL.move .none rfl ?_
          refine JL.bin rfl rfl rfl .none rfl ?_
          refine JL.move .none rfl ?_
          refine JL.cut 3 (fun f => f 1 = t_v0 ∧ f 3 = .pointer (some ⟨b1, 0, none⟩) ∧ f 5 = .pointer (some ⟨b2, 0, none⟩) ∧ f 7 = .bool free_159 ∧ f 8 = .int .i64 long_160 ∧ f 10 = .pointer (some ⟨b310, 0, none⟩) ∧ f 11 = .pointer (some ⟨b311, 0, none⟩) ∧ f 12 = .int .i64 y309.2.2 ∧ f 13 = .int .i64 y312.1 ∧ f 14 = .int .i64 y312.2 ∧ f 15 = .int .i64 y313.1 ∧ f 16 = .int .i64 y313.2 ∧ f 17 = .int .i64 y314.1 ∧ f 18 = .int .i64 y314.2 ∧ f 19 = .int .i64 y315.1 ∧ f 20 = .int .i64 y315.2 ∧ f 21 = .int .i64 y316.1 ∧ f 22 = .int .i64 y316.2 ∧ f 129 = .bool ((y309.2.2 != 0) && (y309.2.2 != 3))) ?_ ?_
          · intro hJ317
            rcases bcases (y309.2.2 != 0) with hc318 | hc318
            · skip
              refine JL.move (.some rfl rfl rfl hc318) rfl ?_
              refine JL.bin rfl rfl rfl (.some rfl rfl rfl hc318) rfl ?_
              refine JL.pick_t (b := (y309.2.2 != 0)) rfl hc318 .none rfl ?_
              exact hJ317 _ ⟨rfl, rfl, rfl, rfl, rfl, rfl, rfl, rfl, rfl, rfl, rfl, rfl, rfl, rfl, rfl, rfl, rfl, rfl, and_t hc318 rfl⟩
            · skip
              refine JL.skip (.bool rfl rfl rfl hc318) rfl ?_
              refine JL.skip (.bool rfl rfl rfl hc318) rfl ?_
              refine JL.pick_f (b := (y309.2.2 != 0)) rfl hc318 .none rfl ?_
              exact hJ317 _ ⟨rfl, rfl, rfl, rfl, rfl, rfl, rfl, rfl, rfl, rfl, rfl, rfl, rfl, rfl, rfl, rfl, rfl, rfl, and_f hc318 rfl⟩
          · rintro f ⟨hf1, hf3, hf5, hf7, hf8, hf10, hf11, hf12, hf13, hf14, hf15, hf16, hf17, hf18, hf19, hf20, hf21, hf22, hf129⟩
            refine (JL.norm (i := 1) hf1 (JL.norm (i := 3) hf3 (JL.norm (i := 5) hf5 (JL.norm (i := 7) hf7 (JL.norm (i := 8) hf8 (JL.norm (i := 10) hf10 (JL.norm (i := 11) hf11 (JL.norm (i := 12) hf12 (JL.norm (i := 13) hf13 (JL.norm (i := 14) hf14 (JL.norm (i := 15) hf15 (JL.norm (i := 16) hf16 (JL.norm (i := 17) hf17 (JL.norm (i := 18) hf18 (JL.norm (i := 19) hf19 (JL.norm (i := 20) hf20 (JL.norm (i := 21) hf21 (JL.norm (i := 22) hf22 (JL.norm (i := 129) hf129 ?_)))))))))))))))))))
            refine JL.move .none rfl ?_
            refine JL.cut 3 (fun f => f 1 = t_v0 ∧ f 3 = .pointer (some ⟨b1, 0, none⟩) ∧ f 5 = .pointer (some ⟨b2, 0, none⟩) ∧ f 7 = .bool free_159 ∧ f 8 = .int .i64 long_160 ∧ f 10 = .pointer (some ⟨b310, 0, none⟩) ∧ f 11 = .pointer (some ⟨b311, 0, none⟩) ∧ f 12 = .int .i64 y309.2.2 ∧ f 13 = .int .i64 y312.1 ∧ f 15 = .int .i64 y313.1 ∧ f 16 = .int .i64 y313.2 ∧ f 17 = .int .i64 y314.1 ∧ f 18 = .int .i64 y314.2 ∧ f 19 = .int .i64 y315.1 ∧ f 20 = .int .i64 y315.2 ∧ f 21 = .int .i64 y316.1 ∧ f 22 = .int .i64 y316.2 ∧ f 133 = .bool (((y309.2.2 != 0) && (y309.2.2 != 3)) || (y312.2 != 0))) ?_ ?_
            · intro hJ319
              rcases bcases ((y309.2.2 != 0) && (y309.2.2 != 3)) with hc320 | hc320
              · skip
                refine JL.skip (.bool rfl rfl rfl hc320) rfl ?_
                refine JL.skip (.bool rfl rfl rfl hc320) rfl ?_
                refine JL.pick_t (b := ((y309.2.2 != 0) && (y309.2.2 != 3))) rfl hc320 .none rfl ?_
                exact hJ319 _ ⟨rfl, rfl, rfl, rfl, rfl, rfl, rfl, rfl, rfl, rfl, rfl, rfl, rfl, rfl, rfl, rfl, rfl, or_t hc320 rfl⟩
              · skip
                refine JL.move (.some rfl rfl rfl hc320) rfl ?_
                refine JL.bin rfl rfl rfl (.some rfl rfl rfl hc320) rfl ?_
                refine JL.pick_f (b := ((y309.2.2 != 0) && (y309.2.2 != 3))) rfl hc320 .none rfl ?_
                exact hJ319 _ ⟨rfl, rfl, rfl, rfl, rfl, rfl, rfl, rfl, rfl, rfl, rfl, rfl, rfl, rfl, rfl, rfl, rfl, or_f hc320 rfl⟩
            · rintro f ⟨hf1, hf3, hf5, hf7, hf8, hf10, hf11, hf12, hf13, hf15, hf16, hf17, hf18, hf19, hf20, hf21, hf22, hf133⟩
              refine (JL.norm (i := 1) hf1 (JL.norm (i := 3) hf3 (JL.norm (i := 5) hf5 (JL.norm (i := 7) hf7 (JL.norm (i := 8) hf8 (JL.norm (i := 10) hf10 (JL.norm (i := 11) hf11 (JL.norm (i := 12) hf12 (JL.norm (i := 13) hf13 (JL.norm (i := 15) hf15 (JL.norm (i := 16) hf16 (JL.norm (i := 17) hf17 (JL.norm (i := 18) hf18 (JL.norm (i := 19) hf19 (JL.norm (i := 20) hf20 (JL.norm (i := 21) hf21 (JL.norm (i := 22) hf22 (JL.norm (i := 133) hf133 ?_))))))))))))))))))
              refine JL.move .none rfl ?_
              refine JL.cut 3 (fun f => f 1 = t_v0 ∧ f 3 = .pointer (some ⟨b1, 0, none⟩) ∧ f 5 = .pointer (some ⟨b2, 0, none⟩) ∧ f 7 = .bool free_159 ∧ f 8 = .int .i64 long_160 ∧ f 10 = .pointer (some ⟨b310, 0, none⟩) ∧ f 11 = .pointer (some ⟨b311, 0, none⟩) ∧ f 12 = .int .i64 y309.2.2 ∧ f 13 = .int .i64 y312.1 ∧ f 15 = .int .i64 y313.1 ∧ f 17 = .int .i64 y314.1 ∧ f 18 = .int .i64 y314.2 ∧ f 19 = .int .i64 y315.1 ∧ f 20 = .int .i64 y315.2 ∧ f 21 = .int .i64 y316.1 ∧ f 22 = .int .i64 y316.2 ∧ f 137 = .bool ((((y309.2.2 != 0) && (y309.2.2 != 3)) || (y312.2 != 0)) || (y313.2 != 0))) ?_ ?_
              · intro hJ321
                rcases bcases (((y309.2.2 != 0) && (y309.2.2 != 3)) || (y312.2 != 0)) with hc322 | hc322
                · skip
                  refine JL.skip (.bool rfl rfl rfl hc322) rfl ?_
                  refine JL.skip (.bool rfl rfl rfl hc322) rfl ?_
                  refine JL.pick_t (b := (((y309.2.2 != 0) && (y309.2.2 != 3)) || (y312.2 != 0))) rfl hc322 .none rfl ?_
                  exact hJ321 _ ⟨rfl, rfl, rfl, rfl, rfl, rfl, rfl, rfl, rfl, rfl, rfl, rfl, rfl, rfl, rfl, rfl, or_t hc322 rfl⟩
                · skip
                  refine JL.move (.some rfl rfl rfl hc322) rfl ?_
                  refine JL.bin rfl rfl rfl (.some rfl rfl rfl hc322) rfl ?_
                  refine JL.pick_f (b := (((y309.2.2 != 0) && (y309.2.2 != 3)) || (y312.2 != 0))) rfl hc322 .none rfl ?_
                  exact hJ321 _ ⟨rfl, rfl, rfl, rfl, rfl, rfl, rfl, rfl, rfl, rfl, rfl, rfl, rfl, rfl, rfl, rfl, or_f hc322 rfl⟩
              · rintro f ⟨hf1, hf3, hf5, hf7, hf8, hf10, hf11, hf12, hf13, hf15, hf17, hf18, hf19, hf20, hf21, hf22, hf137⟩
                refine (JL.norm (i := 1) hf1 (JL.norm (i := 3) hf3 (JL.norm (i := 5) hf5 (JL.norm (i := 7) hf7 (JL.norm (i := 8) hf8 (JL.norm (i := 10) hf10 (JL.norm (i := 11) hf11 (JL.norm (i := 12) hf12 (JL.norm (i := 13) hf13 (JL.norm (i := 15) hf15 (JL.norm (i := 17) hf17 (JL.norm (i := 18) hf18 (JL.norm (i := 19) hf19 (JL.norm (i := 20) hf20 (JL.norm (i := 21) hf21 (JL.norm (i := 22) hf22 (JL.norm (i := 137) hf137 ?_)))))))))))))))))
                refine JL.move .none rfl ?_
                refine JL.cut 3 (fun f => f 1 = t_v0 ∧ f 3 = .pointer (some ⟨b1, 0, none⟩) ∧ f 5 = .pointer (some ⟨b2, 0, none⟩) ∧ f 7 = .bool free_159 ∧ f 8 = .int .i64 long_160 ∧ f 10 = .pointer (some ⟨b310, 0, none⟩) ∧ f 11 = .pointer (some ⟨b311, 0, none⟩) ∧ f 12 = .int .i64 y309.2.2 ∧ f 13 = .int .i64 y312.1 ∧ f 15 = .int .i64 y313.1 ∧ f 17 = .int .i64 y314.1 ∧ f 19 = .int .i64 y315.1 ∧ f 20 = .int .i64 y315.2 ∧ f 21 = .int .i64 y316.1 ∧ f 22 = .int .i64 y316.2 ∧ f 141 = .bool (((((y309.2.2 != 0) && (y309.2.2 != 3)) || (y312.2 != 0)) || (y313.2 != 0)) || (y314.2 != 0))) ?_ ?_
                · intro hJ323
                  rcases bcases ((((y309.2.2 != 0) && (y309.2.2 != 3)) || (y312.2 != 0)) || (y313.2 != 0)) with hc324 | hc324
                  · skip
                    refine JL.skip (.bool rfl rfl rfl hc324) rfl ?_
                    refine JL.skip (.bool rfl rfl rfl hc324) rfl ?_
                    refine JL.pick_t (b := ((((y309.2.2 != 0) && (y309.2.2 != 3)) || (y312.2 != 0)) || (y313.2 != 0))) rfl hc324 .none rfl ?_
                    exact hJ323 _ ⟨rfl, rfl, rfl, rfl, rfl, rfl, rfl, rfl, rfl, rfl, rfl, rfl, rfl, rfl, rfl, or_t hc324 rfl⟩
                  · skip
                    refine JL.move (.some rfl rfl rfl hc324) rfl ?_
                    refine JL.bin rfl rfl rfl (.some rfl rfl rfl hc324) rfl ?_
                    refine JL.pick_f (b := ((((y309.2.2 != 0) && (y309.2.2 != 3)) || (y312.2 != 0)) || (y313.2 != 0))) rfl hc324 .none rfl ?_
                    exact hJ323 _ ⟨rfl, rfl, rfl, rfl, rfl, rfl, rfl, rfl, rfl, rfl, rfl, rfl, rfl, rfl, rfl, or_f hc324 rfl⟩
                · rintro f ⟨hf1, hf3, hf5, hf7, hf8, hf10, hf11, hf12, hf13, hf15, hf17, hf19, hf20, hf21, hf22, hf141⟩
                  refine (JL.norm (i := 1) hf1 (JL.norm (i := 3) hf3 (JL.norm (i := 5) hf5 (JL.norm (i := 7) hf7 (JL.norm (i := 8) hf8 (JL.norm (i := 10) hf10 (JL.norm (i := 11) hf11 (JL.norm (i := 12) hf12 (JL.norm (i := 13) hf13 (JL.norm (i := 15) hf15 (JL.norm (i := 17) hf17 (JL.norm (i := 19) hf19 (JL.norm (i := 20) hf20 (JL.norm (i := 21) hf21 (JL.norm (i := 22) hf22 (JL.norm (i := 141) hf141 ?_))))))))))))))))
                  refine JL.move .none rfl ?_
                  refine JL.cut 3 (fun f => f 1 = t_v0 ∧ f 3 = .pointer (some ⟨b1, 0, none⟩) ∧ f 5 = .pointer (some ⟨b2, 0, none⟩) ∧ f 7 = .bool free_159 ∧ f 8 = .int .i64 long_160 ∧ f 10 = .pointer (some ⟨b310, 0, none⟩) ∧ f 11 = .pointer (some ⟨b311, 0, none⟩) ∧ f 12 = .int .i64 y309.2.2 ∧ f 13 = .int .i64 y312.1 ∧ f 15 = .int .i64 y313.1 ∧ f 17 = .int .i64 y314.1 ∧ f 19 = .int .i64 y315.1 ∧ f 21 = .int .i64 y316.1 ∧ f 22 = .int .i64 y316.2 ∧ f 145 = .bool ((((((y309.2.2 != 0) && (y309.2.2 != 3)) || (y312.2 != 0)) || (y313.2 != 0)) || (y314.2 != 0)) || (y315.2 != 0))) ?_ ?_
                  · intro hJ325
                    rcases bcases (((((y309.2.2 != 0) && (y309.2.2 != 3)) || (y312.2 != 0)) || (y313.2 != 0)) || (y314.2 != 0)) with hc326 | hc326
                    · skip
                      refine JL.skip (.bool rfl rfl rfl hc326) rfl ?_
                      refine JL.skip (.bool rfl rfl rfl hc326) rfl ?_
                      refine JL.pick_t (b := (((((y309.2.2 != 0) && (y309.2.2 != 3)) || (y312.2 != 0)) || (y313.2 != 0)) || (y314.2 != 0))) rfl hc326 .none rfl ?_
                      exact hJ325 _ ⟨rfl, rfl, rfl, rfl, rfl, rfl, rfl, rfl, rfl, rfl, rfl, rfl, rfl, rfl, or_t hc326 rfl⟩
                    · skip
                      refine JL.move (.some rfl rfl rfl hc326) rfl ?_
                      refine JL.bin rfl rfl rfl (.some rfl rfl rfl hc326) rfl ?_
                      refine JL.pick_f (b := (((((y309.2.2 != 0) && (y309.2.2 != 3)) || (y312.2 != 0)) || (y313.2 != 0)) || (y314.2 != 0))) rfl hc326 .none rfl ?_
                      exact hJ325 _ ⟨rfl, rfl, rfl, rfl, rfl, rfl, rfl, rfl, rfl, rfl, rfl, rfl, rfl, rfl, or_f hc326 rfl⟩
                  · rintro f ⟨hf1, hf3, hf5, hf7, hf8, hf10, hf11, hf12, hf13, hf15, hf17, hf19, hf21, hf22, hf145⟩
                    refine (JL.norm (i := 1) hf1 (JL.norm (i := 3) hf3 (JL.norm (i := 5) hf5 (JL.norm (i := 7) hf7 (JL.norm (i := 8) hf8 (JL.norm (i := 10) hf10 (JL.norm (i := 11) hf11 (JL.norm (i := 12) hf12 (JL.norm (i := 13) hf13 (JL.norm (i := 15) hf15 (JL.norm (i := 17) hf17 (JL.norm (i := 19) hf19 (JL.norm (i := 21) hf21 (JL.norm (i := 22) hf22 (JL.norm (i := 145) hf145 ?_)))))))))))))))
                    refine JL.move .none rfl ?_
                    refine JL.cut 3 (fun f => f 1 = t_v0 ∧ f 3 = .pointer (some ⟨b1, 0, none⟩) ∧ f 5 = .pointer (some ⟨b2, 0, none⟩) ∧ f 7 = .bool free_159 ∧ f 8 = .int .i64 long_160 ∧ f 10 = .pointer (some ⟨b310, 0, none⟩) ∧ f 11 = .pointer (some ⟨b311, 0, none⟩) ∧ f 12 = .int .i64 y309.2.2 ∧ f 13 = .int .i64 y312.1 ∧ f 15 = .int .i64 y313.1 ∧ f 17 = .int .i64 y314.1 ∧ f 19 = .int .i64 y315.1 ∧ f 21 = .int .i64 y316.1 ∧ f 149 = .bool (((((((y309.2.2 != 0) && (y309.2.2 != 3)) || (y312.2 != 0)) || (y313.2 != 0)) || (y314.2 != 0)) || (y315.2 != 0)) || (y316.2 != 0))) ?_ ?_
                    · intro hJ327
                      rcases bcases ((((((y309.2.2 != 0) && (y309.2.2 != 3)) || (y312.2 != 0)) || (y313.2 != 0)) || (y314.2 != 0)) || (y315.2 != 0)) with hc328 | hc328
                      · skip
                        refine JL.skip (.bool rfl rfl rfl hc328) rfl ?_
                        refine JL.skip (.bool rfl rfl rfl hc328) rfl ?_
                        refine JL.pick_t (b := ((((((y309.2.2 != 0) && (y309.2.2 != 3)) || (y312.2 != 0)) || (y313.2 != 0)) || (y314.2 != 0)) || (y315.2 != 0))) rfl hc328 .none rfl ?_
                        exact hJ327 _ ⟨rfl, rfl, rfl, rfl, rfl, rfl, rfl, rfl, rfl, rfl, rfl, rfl, rfl, or_t hc328 rfl⟩
                      · skip
                        refine JL.move (.some rfl rfl rfl hc328) rfl ?_
                        refine JL.bin rfl rfl rfl (.some rfl rfl rfl hc328) rfl ?_
                        refine JL.pick_f (b := ((((((y309.2.2 != 0) && (y309.2.2 != 3)) || (y312.2 != 0)) || (y313.2 != 0)) || (y314.2 != 0)) || (y315.2 != 0))) rfl hc328 .none rfl ?_
                        exact hJ327 _ ⟨rfl, rfl, rfl, rfl, rfl, rfl, rfl, rfl, rfl, rfl, rfl, rfl, rfl, or_f hc328 rfl⟩
                    · rintro f ⟨hf1, hf3, hf5, hf7, hf8, hf10, hf11, hf12, hf13, hf15, hf17, hf19, hf21, hf149⟩
                      refine (JL.norm (i := 1) hf1 (JL.norm (i := 3) hf3 (JL.norm (i := 5) hf5 (JL.norm (i := 7) hf7 (JL.norm (i := 8) hf8 (JL.norm (i := 10) hf10 (JL.norm (i := 11) hf11 (JL.norm (i := 12) hf12 (JL.norm (i := 13) hf13 (JL.norm (i := 15) hf15 (JL.norm (i := 17) hf17 (JL.norm (i := 19) hf19 (JL.norm (i := 21) hf21 (JL.norm (i := 149) hf149 ?_))))))))))))))
                      refine JL.move .none rfl ?_
                      refine JL.cut 3 (fun f => f 1 = t_v0 ∧ f 3 = .pointer (some ⟨b1, 0, none⟩) ∧ f 5 = .pointer (some ⟨b2, 0, none⟩) ∧ f 7 = .bool free_159 ∧ f 8 = .int .i64 long_160 ∧ f 10 = .pointer (some ⟨b310, 0, none⟩) ∧ f 11 = .pointer (some ⟨b311, 0, none⟩) ∧ f 12 = .int .i64 y309.2.2 ∧ f 13 = .int .i64 y312.1 ∧ f 15 = .int .i64 y313.1 ∧ f 17 = .int .i64 y314.1 ∧ f 19 = .int .i64 y315.1 ∧ f 21 = .int .i64 y316.1 ∧ f 153 = .bool ((((((((y309.2.2 != 0) && (y309.2.2 != 3)) || (y312.2 != 0)) || (y313.2 != 0)) || (y314.2 != 0)) || (y315.2 != 0)) || (y316.2 != 0)) || (decide (y316.1 < 0)))) ?_ ?_
                      · intro hJ329
                        rcases bcases (((((((y309.2.2 != 0) && (y309.2.2 != 3)) || (y312.2 != 0)) || (y313.2 != 0)) || (y314.2 != 0)) || (y315.2 != 0)) || (y316.2 != 0)) with hc330 | hc330
                        · skip
                          refine JL.skip (.bool rfl rfl rfl hc330) rfl ?_
                          refine JL.skip (.bool rfl rfl rfl hc330) rfl ?_
                          refine JL.pick_t (b := (((((((y309.2.2 != 0) && (y309.2.2 != 3)) || (y312.2 != 0)) || (y313.2 != 0)) || (y314.2 != 0)) || (y315.2 != 0)) || (y316.2 != 0))) rfl hc330 .none rfl ?_
                          exact hJ329 _ ⟨rfl, rfl, rfl, rfl, rfl, rfl, rfl, rfl, rfl, rfl, rfl, rfl, rfl, or_t hc330 rfl⟩
                        · skip
                          refine JL.move (.some rfl rfl rfl hc330) rfl ?_
                          refine JL.bin rfl rfl rfl (.some rfl rfl rfl hc330) rfl ?_
                          refine JL.pick_f (b := (((((((y309.2.2 != 0) && (y309.2.2 != 3)) || (y312.2 != 0)) || (y313.2 != 0)) || (y314.2 != 0)) || (y315.2 != 0)) || (y316.2 != 0))) rfl hc330 .none rfl ?_
                          exact hJ329 _ ⟨rfl, rfl, rfl, rfl, rfl, rfl, rfl, rfl, rfl, rfl, rfl, rfl, rfl, or_f hc330 rfl⟩
                      · rintro f ⟨hf1, hf3, hf5, hf7, hf8, hf10, hf11, hf12, hf13, hf15, hf17, hf19, hf21, hf153⟩
                        refine (JL.norm (i := 1) hf1 (JL.norm (i := 3) hf3 (JL.norm (i := 5) hf5 (JL.norm (i := 7) hf7 (JL.norm (i := 8) hf8 (JL.norm (i := 10) hf10 (JL.norm (i := 11) hf11 (JL.norm (i := 12) hf12 (JL.norm (i := 13) hf13 (JL.norm (i := 15) hf15 (JL.norm (i := 17) hf17 (JL.norm (i := 19) hf19 (JL.norm (i := 21) hf21 (JL.norm (i := 153) hf153 ?_))))))))))))))
                        refine JL.move .none rfl ?_
                        refine JL.cut 3 (fun f => f 1 = t_v0 ∧ f 3 = .pointer (some ⟨b1, 0, none⟩) ∧ f 5 = .pointer (some ⟨b2, 0, none⟩) ∧ f 7 = .bool free_159 ∧ f 8 = .int .i64 long_160 ∧ f 10 = .pointer (some ⟨b310, 0, none⟩) ∧ f 11 = .pointer (some ⟨b311, 0, none⟩) ∧ f 12 = .int .i64 y309.2.2 ∧ f 13 = .int .i64 y312.1 ∧ f 15 = .int .i64 y313.1 ∧ f 17 = .int .i64 y314.1 ∧ f 19 = .int .i64 y315.1 ∧ f 21 = .int .i64 y316.1 ∧ f 157 = .bool (((((((((y309.2.2 != 0) && (y309.2.2 != 3)) || (y312.2 != 0)) || (y313.2 != 0)) || (y314.2 != 0)) || (y315.2 != 0)) || (y316.2 != 0)) || (decide (y316.1 < 0))) || (decide (20000 < y316.1)))) ?_ ?_
                        · intro hJ331
                          rcases bcases ((((((((y309.2.2 != 0) && (y309.2.2 != 3)) || (y312.2 != 0)) || (y313.2 != 0)) || (y314.2 != 0)) || (y315.2 != 0)) || (y316.2 != 0)) || (decide (y316.1 < 0))) with hc332 | hc332
                          · skip
                            refine JL.skip (.bool rfl rfl rfl hc332) rfl ?_
                            refine JL.skip (.bool rfl rfl rfl hc332) rfl ?_
                            refine JL.pick_t (b := ((((((((y309.2.2 != 0) && (y309.2.2 != 3)) || (y312.2 != 0)) || (y313.2 != 0)) || (y314.2 != 0)) || (y315.2 != 0)) || (y316.2 != 0)) || (decide (y316.1 < 0)))) rfl hc332 .none rfl ?_
                            exact hJ331 _ ⟨rfl, rfl, rfl, rfl, rfl, rfl, rfl, rfl, rfl, rfl, rfl, rfl, rfl, or_t hc332 rfl⟩
                          · skip
                            refine JL.move (.some rfl rfl rfl hc332) rfl ?_
                            refine JL.bin rfl rfl rfl (.some rfl rfl rfl hc332) rfl ?_
                            refine JL.pick_f (b := ((((((((y309.2.2 != 0) && (y309.2.2 != 3)) || (y312.2 != 0)) || (y313.2 != 0)) || (y314.2 != 0)) || (y315.2 != 0)) || (y316.2 != 0)) || (decide (y316.1 < 0)))) rfl hc332 .none rfl ?_
                            exact hJ331 _ ⟨rfl, rfl, rfl, rfl, rfl, rfl, rfl, rfl, rfl, rfl, rfl, rfl, rfl, or_f hc332 rfl⟩
                        · rintro f ⟨hf1, hf3, hf5, hf7, hf8, hf10, hf11, hf12, hf13, hf15, hf17, hf19, hf21, hf157⟩
                          refine (JL.norm (i := 1) hf1 (JL.norm (i := 3) hf3 (JL.norm (i := 5) hf5 (JL.norm (i := 7) hf7 (JL.norm (i := 8) hf8 (JL.norm (i := 10) hf10 (JL.norm (i := 11) hf11 (JL.norm (i := 12) hf12 (JL.norm (i := 13) hf13 (JL.norm (i := 15) hf15 (JL.norm (i := 17) hf17 (JL.norm (i := 19) hf19 (JL.norm (i := 21) hf21 (JL.norm (i := 157) hf157 ?_))))))))))))))
                          refine JL.done hQ ?_
                          refine JQ.go ?_
                          rcases ite_some hF with ⟨hc333, hF⟩ | ⟨hc333, hF⟩
                          · refine JC.cond_t (b := (((((((((y309.2.2 != 0) && (y309.2.2 != 3)) || (y312.2 != 0)) || (y313.2 != 0)) || (y314.2 != 0)) || (y315.2 != 0)) || (y316.2 != 0)) || (decide (y316.1 < 0))) || (decide (20000 < y316.1)))) rfl hc333 ?_
                            refine JC.seq ?_
                            refine JC.region (by rfl) ?_
                            intro hQ
                            refine JL.assign .none rfl ?_
                            refine JL.done hQ ?_
                            refine JQ.go ?_
                            refine JC.fresh (fun f => f 6 = .bool false) rfl ?_
                            rintro f hf6
                            refine (JC.norm (i := 6) hf6 ?_)
                            refine JC.ret ?_
                            refine JQ.ret_then ?_
                            obtain rfl := Option.some.inj hF
                            exact JQ.outS rfl (.tmp .nil) rfl
                          · refine JC.cond_f (b := (((((((((y309.2.2 != 0) && (y309.2.2 != 3)) || (y312.2 != 0)) || (y313.2 != 0)) || (y314.2 != 0)) || (y315.2 != 0)) || (y316.2 != 0)) || (decide (y316.1 < 0))) || (decide (20000 < y316.1)))) rfl hc333 ?_
                            refine JC.skip ?_
                            refine JQ.go ?_
                            refine JC.seq ?_
                            refine JC.region (by rfl) ?_
                            intro hQ
                            refine JL.move .none rfl ?_
                            refine JL.move .none rfl ?_
                            refine JL.fieldAddr fo_28_0 rfl .none rfl ?_
                            refine JL.loadOwn 2 az_3 rfl rfl rfl .none rfl ?_
                            obtain ⟨y334, hy334, hF⟩ := bind_some hF
                            refine JL.indexSL (R := R_ref01_Pair) sl_40 (SL.mono R_ref01_Pair_mono hs161 ht_0) rfl hy334 .none rfl ?_
                            rintro b335 o336 cs337 hc338 - rfl
                            refine JL.loadH 0 az_45 rfl hc338 rfl .none rfl ?_
                            obtain ⟨y339, hy339, hF⟩ := bind_some hF
                            refine JL.callS (c_ref01_CosineOf n H161 y316.1 y334 y339 hy339) rfl en_26 .none rfl ?_
                            refine JL.move .none rfl ?_
                            refine JL.extract rfl rfl .none rfl ?_
                            refine JL.extract rfl rfl .none rfl ?_
                            refine JL.alloc ze_24 .none rfl ?_
                            intro b340
                            refine JL.storeOwn 0 (cs := [.int .i64 y339.1.Num, .int .i64 y339.1.Den]) az_24 rfl rfl rfl (one_cons rfl (one_cons rfl one_nil)) rfl rfl .none ?_
                            refine JL.assign .none rfl ?_
                            refine JL.done hQ ?_
                            refine JQ.go ?_
                            refine JC.fresh (fun f => f 1 = t_v0 ∧ f 3 = .pointer (some ⟨b1, 0, none⟩) ∧ f 5 = .pointer (some ⟨b2, 0, none⟩) ∧ f 7 = .bool free_159 ∧ f 8 = .int .i64 long_160 ∧ f 10 = .pointer (some ⟨b310, 0, none⟩) ∧ f 11 = .pointer (some ⟨b311, 0, none⟩) ∧ f 12 = .int .i64 y309.2.2 ∧ f 13 = .int .i64 y312.1 ∧ f 15 = .int .i64 y313.1 ∧ f 17 = .int .i64 y314.1 ∧ f 19 = .int .i64 y315.1 ∧ f 23 = .pointer (some ⟨b340, 0, none⟩) ∧ f 24 = .bool y339.2) ⟨rfl, rfl, rfl, rfl, rfl, rfl, rfl, rfl, rfl, rfl, rfl, rfl, rfl, rfl⟩ ?_
                            rintro f ⟨hf1, hf3, hf5, hf7, hf8, hf10, hf11, hf12, hf13, hf15, hf17, hf19, hf23, hf24⟩
                            refine (JC.norm (i := 1) hf1 (JC.norm (i := 3) hf3 (JC.norm (i := 5) hf5 (JC.norm (i := 7) hf7 (JC.norm (i := 8) hf8 (JC.norm (i := 10) hf10 (JC.norm (i := 11) hf11 (JC.norm (i := 12) hf12 (JC.norm (i := 13) hf13 (JC.norm (i := 15) hf15 (JC.norm (i := 17) hf17 (JC.norm (i := 19) hf19 (JC.norm (i := 23) hf23 (JC.norm (i := 24) hf24 ?_))))))))))))))
                            refine JC.seq ?_
                            refine JC.seq ?_
                            refine JC.region (by rfl) ?_
                            intro hQ
                            refine JL.move .none rfl ?_
                            refine JL.move .none rfl ?_
                            refine JL.bin rfl rfl rfl .none rfl ?_
                            refine JL.neBool ub_4 rfl rfl .none rfl ?_
                            refine JL.move .none rfl ?_
                            obtain ⟨p376, hp376, hF⟩ := bind_some hF
                            refine JL.cut 22 (fun f => f 1 = t_v0 ∧ f 3 = .pointer (some ⟨b1, 0, none⟩) ∧ f 5 = .pointer (some ⟨b2, 0, none⟩) ∧ f 7 = .bool free_159 ∧ f 8 = .int .i64 long_160 ∧ f 13 = .int .i64 y312.1 ∧ f 15 = .int .i64 y313.1 ∧ f 17 = .int .i64 y314.1 ∧ f 19 = .int .i64 y315.1 ∧ f 194 = .bool p376) ?_ ?_
                            · intro hJ377
                              rcases ite_some hp376 with ⟨hc378, hF⟩ | ⟨hc378, hF⟩
                              · skip
                                refine JL.skip (.bool rfl rfl rfl hc378) rfl ?_
                                refine JL.skip (.bool rfl rfl rfl hc378) rfl ?_
                                refine JL.skip (.no rfl rfl rfl) rfl ?_
                                refine JL.skip (.no rfl rfl rfl) rfl ?_
                                refine JL.skip (.no rfl rfl rfl) rfl ?_
                                refine JL.skip (.no rfl rfl rfl) rfl ?_
                                refine JL.skip (.no rfl rfl rfl) rfl ?_
                                refine JL.skip (.no rfl rfl rfl) rfl ?_
                                refine JL.skip (.no rfl rfl rfl) rfl ?_
                                refine JL.skip (.no rfl rfl rfl) rfl ?_
                                refine JL.skip (.no rfl rfl rfl) rfl ?_
                                refine JL.skip (.no rfl rfl rfl) rfl ?_
                                refine JL.skip (.no rfl rfl rfl) rfl ?_
                                refine JL.skip (.no rfl rfl rfl) rfl ?_
                                refine JL.skip (.no rfl rfl rfl) rfl ?_
                                refine JL.skip (.no rfl rfl rfl) rfl ?_
                                refine JL.skip (.no rfl rfl rfl) rfl ?_
                                refine JL.skip (.no rfl rfl rfl) rfl ?_
                                refine JL.skip (.no rfl rfl rfl) rfl ?_
                                refine JL.skip (.no rfl rfl rfl) rfl ?_
                                refine JL.skip (.bool rfl rfl rfl hc378) rfl ?_
                                refine JL.pick_t (b := (y339.2 != (y309.2.2 == 0))) rfl hc378 .none rfl ?_
                                obtain rfl := Option.some.inj hF
                                exact hJ377 _ ⟨rfl, rfl, rfl, rfl, rfl, rfl, rfl, rfl, rfl, rfl⟩
                              · skip
                                refine JL.move (.some rfl rfl rfl hc378) rfl ?_
                                refine JL.move (.some rfl rfl rfl hc378) rfl ?_
                                obtain ⟨p395, hp395, hF⟩ := bind_some hF
                                refine JL.cut 19 (fun f => f 1 = t_v0 ∧ f 3 = .pointer (some ⟨b1, 0, none⟩) ∧ f 5 = .pointer (some ⟨b2, 0, none⟩) ∧ f 7 = .bool free_159 ∧ f 8 = .int .i64 long_160 ∧ f 13 = .int .i64 y312.1 ∧ f 15 = .int .i64 y313.1 ∧ f 17 = .int .i64 y314.1 ∧ f 19 = .int .i64 y315.1 ∧ f 172 = .bool (y339.2 != (y309.2.2 == 0)) ∧ f 193 = .bool p395) ?_ ?_
                                · intro hJ396
                                  rcases ite_some hp395 with ⟨hc397, hF⟩ | ⟨hc397, hF⟩
                                  · skip
                                    refine JL.loadOwn 2 az_24 rfl rfl rfl (.some rfl rfl rfl hc397) rfl ?_
                                    obtain ⟨y398, hy398, hF⟩ := bind_some hF
                                    refine JL.callS (c_law01_isFrac n H161 y309.1 y398 hy398) rfl en_37 (.some rfl rfl rfl hc397) rfl ?_
                                    refine JL.not rfl (.some rfl rfl rfl hc397) rfl ?_
                                    refine JL.move (.some rfl rfl rfl hc397) rfl ?_
                                    obtain ⟨p400, hp400, hF⟩ := bind_some hF
                                    refine JL.cut 4 (fun f => f 1 = t_v0 ∧ f 3 = .pointer (some ⟨b1, 0, none⟩) ∧ f 5 = .pointer (some ⟨b2, 0, none⟩) ∧ f 7 = .bool free_159 ∧ f 8 = .int .i64 long_160 ∧ f 10 = .pointer (some ⟨b310, 0, none⟩) ∧ f 11 = .pointer (some ⟨b311, 0, none⟩) ∧ f 13 = .int .i64 y312.1 ∧ f 15 = .int .i64 y313.1 ∧ f 17 = .int .i64 y314.1 ∧ f 19 = .int .i64 y315.1 ∧ f 23 = .pointer (some ⟨b340, 0, none⟩) ∧ f 172 = .bool (y339.2 != (y309.2.2 == 0)) ∧ f 174 = .bool y339.2 ∧ f 182 = .bool p400) ?_ ?_
                                    · intro hJ401
                                      rcases ite_some hp400 with ⟨hc402, hF⟩ | ⟨hc402, hF⟩
                                      · skip
                                        refine JL.skip (.bool rfl rfl rfl hc402) rfl ?_
                                        refine JL.skip (.bool rfl rfl rfl hc402) rfl ?_
                                        refine JL.skip (.bool rfl rfl rfl hc402) rfl ?_
                                        refine JL.pick_t (b := (!y398)) rfl hc402 (.some rfl rfl rfl hc397) rfl ?_
                                        obtain rfl := Option.some.inj hF
                                        exact hJ401 _ ⟨rfl, rfl, rfl, rfl, rfl, rfl, rfl, rfl, rfl, rfl, rfl, rfl, rfl, rfl, rfl⟩
                                      · skip
                                        refine JL.loadOwn 1 az_24 rfl rfl rfl (.some rfl rfl rfl hc402) rfl ?_
                                        obtain ⟨y403, hy403, hF⟩ := bind_some hF
                                        refine JL.callS (c_law01_isFrac n H161 y309.2.1 y403 hy403) rfl en_37 (.some rfl rfl rfl hc402) rfl ?_
                                        refine JL.not rfl (.some rfl rfl rfl hc402) rfl ?_
                                        refine JL.pick_f (b := (!y398)) rfl hc402 (.some rfl rfl rfl hc397) rfl ?_
                                        obtain rfl := Option.some.inj hF
                                        exact hJ401 _ ⟨rfl, rfl, rfl, rfl, rfl, rfl, rfl, rfl, rfl, rfl, rfl, rfl, rfl, rfl, rfl⟩
                                    · rintro f ⟨hf1, hf3, hf5, hf7, hf8, hf10, hf11, hf13, hf15, hf17, hf19, hf23, hf172, hf174, hf182⟩
                                      refine (JL.norm (i := 1) hf1 (JL.norm (i := 3) hf3 (JL.norm (i := 5) hf5 (JL.norm (i := 7) hf7 (JL.norm (i := 8) hf8 (JL.norm (i := 10) hf10 (JL.norm (i := 11) hf11 (JL.norm (i := 13) hf13 (JL.norm (i := 15) hf15 (JL.norm (i := 17) hf17 (JL.norm (i := 19) hf19 (JL.norm (i := 23) hf23 (JL.norm (i := 172) hf172 (JL.norm (i := 174) hf174 (JL.norm (i := 182) hf182 ?_)))))))))))))))
                                      refine JL.move (.some rfl rfl rfl hc397) rfl ?_
                                      obtain ⟨p405, hp405, hF⟩ := bind_some hF
                                      refine JL.cut 4 (fun f => f 1 = t_v0 ∧ f 3 = .pointer (some ⟨b1, 0, none⟩) ∧ f 5 = .pointer (some ⟨b2, 0, none⟩) ∧ f 7 = .bool free_159 ∧ f 8 = .int .i64 long_160 ∧ f 11 = .pointer (some ⟨b311, 0, none⟩) ∧ f 13 = .int .i64 y312.1 ∧ f 15 = .int .i64 y313.1 ∧ f 17 = .int .i64 y314.1 ∧ f 19 = .int .i64 y315.1 ∧ f 23 = .pointer (some ⟨b340, 0, none⟩) ∧ f 172 = .bool (y339.2 != (y309.2.2 == 0)) ∧ f 174 = .bool y339.2 ∧ f 187 = .bool p405) ?_ ?_
                                      · intro hJ406
                                        rcases ite_some hp405 with ⟨hc407, hF⟩ | ⟨hc407, hF⟩
                                        · skip
                                          refine JL.skip (.bool rfl rfl rfl hc407) rfl ?_
                                          refine JL.skip (.bool rfl rfl rfl hc407) rfl ?_
                                          refine JL.skip (.bool rfl rfl rfl hc407) rfl ?_
                                          refine JL.pick_t (b := p400) rfl hc407 (.some rfl rfl rfl hc397) rfl ?_
                                          obtain rfl := Option.some.inj hF
                                          exact hJ406 _ ⟨rfl, rfl, rfl, rfl, rfl, rfl, rfl, rfl, rfl, rfl, rfl, rfl, rfl, rfl⟩
                                        · skip
                                          refine JL.loadOwn 0 az_24 rfl rfl rfl (.some rfl rfl rfl hc407) rfl ?_
                                          refine JL.loadOwn 2 az_24 rfl rfl rfl (.some rfl rfl rfl hc407) rfl ?_
                                          obtain ⟨y408, hy408, hF⟩ := bind_some hF
                                          refine JL.callS (c_ref01_Less n H161 y339.1 y309.1 y408 hy408) rfl en_29 (.some rfl rfl rfl hc407) rfl ?_
                                          refine JL.pick_f (b := p400) rfl hc407 (.some rfl rfl rfl hc397) rfl ?_
                                          obtain rfl := Option.some.inj hF
                                          exact hJ406 _ ⟨rfl, rfl, rfl, rfl, rfl, rfl, rfl, rfl, rfl, rfl, rfl, rfl, rfl, rfl⟩
                                      · rintro f ⟨hf1, hf3, hf5, hf7, hf8, hf11, hf13, hf15, hf17, hf19, hf23, hf172, hf174, hf187⟩
                                        refine (JL.norm (i := 1) hf1 (JL.norm (i := 3) hf3 (JL.norm (i := 5) hf5 (JL.norm (i := 7) hf7 (JL.norm (i := 8) hf8 (JL.norm (i := 11) hf11 (JL.norm (i := 13) hf13 (JL.norm (i := 15) hf15 (JL.norm (i := 17) hf17 (JL.norm (i := 19) hf19 (JL.norm (i := 23) hf23 (JL.norm (i := 172) hf172 (JL.norm (i := 174) hf174 (JL.norm (i := 187) hf187 ?_))))))))))))))
                                        refine JL.move (.some rfl rfl rfl hc397) rfl ?_
                                        obtain ⟨p410, hp410, hF⟩ := bind_some hF
                                        refine JL.cut 4 (fun f => f 1 = t_v0 ∧ f 3 = .pointer (some ⟨b1, 0, none⟩) ∧ f 5 = .pointer (some ⟨b2, 0, none⟩) ∧ f 7 = .bool free_159 ∧ f 8 = .int .i64 long_160 ∧ f 13 = .int .i64 y312.1 ∧ f 15 = .int .i64 y313.1 ∧ f 17 = .int .i64 y314.1 ∧ f 19 = .int .i64 y315.1 ∧ f 172 = .bool (y339.2 != (y309.2.2 == 0)) ∧ f 174 = .bool y339.2 ∧ f 192 = .bool p410) ?_ ?_
                                        · intro hJ411
                                          rcases ite_some hp410 with ⟨hc412, hF⟩ | ⟨hc412, hF⟩
                                          · skip
                                            refine JL.skip (.bool rfl rfl rfl hc412) rfl ?_
                                            refine JL.skip (.bool rfl rfl rfl hc412) rfl ?_
                                            refine JL.skip (.bool rfl rfl rfl hc412) rfl ?_
                                            refine JL.pick_t (b := p405) rfl hc412 (.some rfl rfl rfl hc397) rfl ?_
                                            obtain rfl := Option.some.inj hF
                                            exact hJ411 _ ⟨rfl, rfl, rfl, rfl, rfl, rfl, rfl, rfl, rfl, rfl, rfl, rfl⟩
                                          · skip
                                            refine JL.loadOwn 1 az_24 rfl rfl rfl (.some rfl rfl rfl hc412) rfl ?_
                                            refine JL.loadOwn 0 az_24 rfl rfl rfl (.some rfl rfl rfl hc412) rfl ?_
                                            obtain ⟨y413, hy413, hF⟩ := bind_some hF
                                            refine JL.callS (c_ref01_Less n H161 y309.2.1 y339.1 y413 hy413) rfl en_29 (.some rfl rfl rfl hc412) rfl ?_
                                            refine JL.pick_f (b := p405) rfl hc412 (.some rfl rfl rfl hc397) rfl ?_
                                            obtain rfl := Option.some.inj hF
                                            exact hJ411 _ ⟨rfl, rfl, rfl, rfl, rfl, rfl, rfl, rfl, rfl, rfl, rfl, rfl⟩
                                        · rintro f ⟨hf1, hf3, hf5, hf7, hf8, hf13, hf15, hf17, hf19, hf172, hf174, hf192⟩
                                          refine (JL.norm (i := 1) hf1 (JL.norm (i := 3) hf3 (JL.norm (i := 5) hf5 (JL.norm (i := 7) hf7 (JL.norm (i := 8) hf8 (JL.norm (i := 13) hf13 (JL.norm (i := 15) hf15 (JL.norm (i := 17) hf17 (JL.norm (i := 19) hf19 (JL.norm (i := 172) hf172 (JL.norm (i := 174) hf174 (JL.norm (i := 192) hf192 ?_))))))))))))
                                          refine JL.pick_t (b := y339.2) rfl hc397 (.some rfl rfl rfl hc378) rfl ?_
                                          obtain rfl := Option.some.inj hF
                                          exact hJ396 _ ⟨rfl, rfl, rfl, rfl, rfl, rfl, rfl, rfl, rfl, rfl, rfl⟩
                                  · skip
                                    refine JL.skip (.bool rfl rfl rfl hc397) rfl ?_
                                    refine JL.skip (.bool rfl rfl rfl hc397) rfl ?_
                                    refine JL.skip (.bool rfl rfl rfl hc397) rfl ?_
                                    refine JL.skip (.bool rfl rfl rfl hc397) rfl ?_
                                    refine JL.skip (.no rfl rfl rfl) rfl ?_
                                    refine JL.skip (.no rfl rfl rfl) rfl ?_
                                    refine JL.skip (.no rfl rfl rfl) rfl ?_
                                    refine JL.skip (.bool rfl rfl rfl hc397) rfl ?_
                                    refine JL.skip (.bool rfl rfl rfl hc397) rfl ?_
                                    refine JL.skip (.no rfl rfl rfl) rfl ?_
                                    refine JL.skip (.no rfl rfl rfl) rfl ?_
                                    refine JL.skip (.no rfl rfl rfl) rfl ?_
                                    refine JL.skip (.bool rfl rfl rfl hc397) rfl ?_
                                    refine JL.skip (.bool rfl rfl rfl hc397) rfl ?_
                                    refine JL.skip (.no rfl rfl rfl) rfl ?_
                                    refine JL.skip (.no rfl rfl rfl) rfl ?_
                                    refine JL.skip (.no rfl rfl rfl) rfl ?_
                                    refine JL.skip (.bool rfl rfl rfl hc397) rfl ?_
                                    refine JL.pick_f (b := y339.2) rfl hc397 (.some rfl rfl rfl hc378) rfl ?_
                                    obtain rfl := Option.some.inj hF
                                    exact hJ396 _ ⟨rfl, rfl, rfl, rfl, rfl, rfl, rfl, rfl, rfl, rfl, rfl⟩
                                · rintro f ⟨hf1, hf3, hf5, hf7, hf8, hf13, hf15, hf17, hf19, hf172, hf193⟩
                                  refine (JL.norm (i := 1) hf1 (JL.norm (i := 3) hf3 (JL.norm (i := 5) hf5 (JL.norm (i := 7) hf7 (JL.norm (i := 8) hf8 (JL.norm (i := 13) hf13 (JL.norm (i := 15) hf15 (JL.norm (i := 17) hf17 (JL.norm (i := 19) hf19 (JL.norm (i := 172) hf172 (JL.norm (i := 193) hf193 ?_)))))))))))
                                  refine JL.pick_f (b := (y339.2 != (y309.2.2 == 0))) rfl hc378 .none rfl ?_
                                  obtain rfl := Option.some.inj hF
                                  exact hJ377 _ ⟨rfl, rfl, rfl, rfl, rfl, rfl, rfl, rfl, rfl, rfl⟩
                            · rintro f ⟨hf1, hf3, hf5, hf7, hf8, hf13, hf15, hf17, hf19, hf194⟩
                              refine (JL.norm (i := 1) hf1 (JL.norm (i := 3) hf3 (JL.norm (i := 5) hf5 (JL.norm (i := 7) hf7 (JL.norm (i := 8) hf8 (JL.norm (i := 13) hf13 (JL.norm (i := 15) hf15 (JL.norm (i := 17) hf17 (JL.norm (i := 19) hf19 (JL.norm (i := 194) hf194 ?_))))))))))
                              refine JL.done hQ ?_
                              refine JQ.go ?_
                              rcases ite_some hF with ⟨hc414, hF⟩ | ⟨hc414, hF⟩
                              · refine JC.cond_t (b := p376) rfl hc414 ?_
                                refine JC.seq ?_
                                refine JC.region (by rfl) ?_
                                intro hQ
                                refine JL.assign .none rfl ?_
                                refine JL.done hQ ?_
                                refine JQ.go ?_
                                refine JC.ret ?_
                                refine JQ.ret_then ?_
                                obtain rfl := Option.some.inj hF
                                exact JQ.outS rfl (.tmp .nil) rfl
                              · refine JC.cond_f (b := p376) rfl hc414 ?_
                                refine JC.skip ?_
                                refine JQ.go ?_
                                refine JC.seq ?_
                                refine JC.draw (by rfl) mo_ (by kernel_rfl) ?_
                                intro hQ
                                refine JL.loadOwn 4 az_26 rfl rfl rfl .none rfl ?_
                                refine JL.fieldAddr fo_28_0 rfl .none rfl ?_
                                refine JL.loadOwn 3 az_3 rfl rfl rfl .none rfl ?_
                                refine JL.fieldAddr fo_28_1 rfl .none rfl ?_
                                refine JL.loadOwn 3 az_3 rfl rfl rfl .none rfl ?_
                                refine JL.move .none rfl ?_
                                refine JL.fieldAddr fo_28_0 rfl .none rfl ?_
                                refine JL.loadOwn 3 az_3 rfl rfl rfl .none rfl ?_
                                obtain ⟨y421, hy421, hF⟩ := bind_some hF
                                refine JL.indexSL (R := R_ref01_Pair) sl_40 (SL.mono R_ref01_Pair_mono hs161 ht_0) rfl hy421 .none rfl ?_
                                rintro b422 o423 cs424 hc425 - rfl
                                refine JL.loadH 0 az_45 rfl hc425 rfl .none rfl ?_
                                obtain ⟨y426, hy426, hF⟩ := bind_some hF
                                refine JL.callS (c_ref01_BindsAt n H161 f_ f__v0 (SL.mono R_Section_mono hs161 hf__0) x_.Section x_.R y421 y426 hy426) rfl en_27 .none rfl ?_
                                refine JL.assign .none rfl ?_
                                refine JL.doneQ hQ ?_
                                refine JQ.go ?_
                                refine JC.fresh (fun f => f 1 = t_v0 ∧ f 3 = .pointer (some ⟨b1, 0, none⟩) ∧ f 5 = .pointer (some ⟨b2, 0, none⟩) ∧ f 7 = .bool free_159 ∧ f 8 = .int .i64 long_160 ∧ f 13 = .int .i64 y312.1 ∧ f 15 = .int .i64 y313.1 ∧ f 17 = .int .i64 y314.1 ∧ f 19 = .int .i64 y315.1 ∧ f 25 = .bool y426) ⟨rfl, rfl, rfl, rfl, rfl, rfl, rfl, rfl, rfl, rfl⟩ ?_
                                rintro f ⟨hf1, hf3, hf5, hf7, hf8, hf13, hf15, hf17, hf19, hf25⟩
                                refine (JC.norm (i := 1) hf1 (JC.norm (i := 3) hf3 (JC.norm (i := 5) hf5 (JC.norm (i := 7) hf7 (JC.norm (i := 8) hf8 (JC.norm (i := 13) hf13 (JC.norm (i := 15) hf15 (JC.norm (i := 17) hf17 (JC.norm (i := 19) hf19 (JC.norm (i := 25) hf25 ?_))))))))))
                                refine JC.seq ?_
                                refine JC.seq ?_
                                refine JC.draw (by rfl) mo_ (by kernel_rfl) ?_
                                intro hQ
                                refine JL.move .none rfl ?_
                                refine JL.move .none rfl ?_
                                obtain ⟨y455, hy455, hF⟩ := bind_some hF
                                refine JL.callS (c_law01_agrees n H161 y312.1 y426 y455 hy455) rfl en_38 .none rfl ?_
                                refine JL.not rfl .none rfl ?_
                                refine JL.move .none rfl ?_
                                obtain ⟨p457, hp457, hF⟩ := bind_some hF
                                refine JL.cut 5 (fun f => f 1 = t_v0 ∧ f 3 = .pointer (some ⟨b1, 0, none⟩) ∧ f 5 = .pointer (some ⟨b2, 0, none⟩) ∧ f 8 = .int .i64 long_160 ∧ f 17 = .int .i64 y314.1 ∧ f 19 = .int .i64 y315.1 ∧ f 25 = .bool y426 ∧ f 215 = .bool p457) ?_ ?_
                                · intro hJ458
                                  rcases ite_some hp457 with ⟨hc459, hF⟩ | ⟨hc459, hF⟩
                                  · skip
                                    refine JL.skip (.bool rfl rfl rfl hc459) rfl ?_
                                    refine JL.skip (.bool rfl rfl rfl hc459) rfl ?_
                                    refine JL.skip (.bool rfl rfl rfl hc459) rfl ?_
                                    refine JL.skip (.bool rfl rfl rfl hc459) rfl ?_
                                    refine JL.pick_t (b := (!y455)) rfl hc459 .none rfl ?_
                                    obtain rfl := Option.some.inj hF
                                    exact hJ458 _ ⟨rfl, rfl, rfl, rfl, rfl, rfl, rfl, rfl⟩
                                  · skip
                                    refine JL.move (.some rfl rfl rfl hc459) rfl ?_
                                    refine JL.move (.some rfl rfl rfl hc459) rfl ?_
                                    obtain ⟨y460, hy460, hF⟩ := bind_some hF
                                    refine JL.callS (c_law01_agrees n H161 y313.1 free_159 y460 hy460) rfl en_38 (.some rfl rfl rfl hc459) rfl ?_
                                    refine JL.not rfl (.some rfl rfl rfl hc459) rfl ?_
                                    refine JL.pick_f (b := (!y455)) rfl hc459 .none rfl ?_
                                    obtain rfl := Option.some.inj hF
                                    exact hJ458 _ ⟨rfl, rfl, rfl, rfl, rfl, rfl, rfl, rfl⟩
                                · rintro f ⟨hf1, hf3, hf5, hf8, hf17, hf19, hf25, hf215⟩
                                  refine (JL.norm (i := 1) hf1 (JL.norm (i := 3) hf3 (JL.norm (i := 5) hf5 (JL.norm (i := 8) hf8 (JL.norm (i := 17) hf17 (JL.norm (i := 19) hf19 (JL.norm (i := 25) hf25 (JL.norm (i := 215) hf215 ?_))))))))
                                  refine JL.move .none rfl ?_
                                  obtain ⟨p468, hp468, hF⟩ := bind_some hF
                                  refine JL.cut 13 (fun f => f 3 = .pointer (some ⟨b1, 0, none⟩) ∧ f 5 = .pointer (some ⟨b2, 0, none⟩) ∧ f 8 = .int .i64 long_160 ∧ f 19 = .int .i64 y315.1 ∧ f 25 = .bool y426 ∧ f 229 = .bool p468) ?_ ?_
                                  · intro hJ469
                                    rcases ite_some hp468 with ⟨hc470, hF⟩ | ⟨hc470, hF⟩
                                    · skip
                                      refine JL.skip (.bool rfl rfl rfl hc470) rfl ?_
                                      refine JL.skip (.bool rfl rfl rfl hc470) rfl ?_
                                      refine JL.skip (.bool rfl rfl rfl hc470) rfl ?_
                                      refine JL.skip (.bool rfl rfl rfl hc470) rfl ?_
                                      refine JL.skip (.bool rfl rfl rfl hc470) rfl ?_
                                      refine JL.skip (.bool rfl rfl rfl hc470) rfl ?_
                                      refine JL.skip (.bool rfl rfl rfl hc470) rfl ?_
                                      refine JL.skip (.bool rfl rfl rfl hc470) rfl ?_
                                      refine JL.skip (.bool rfl rfl rfl hc470) rfl ?_
                                      refine JL.skip (.bool rfl rfl rfl hc470) rfl ?_
                                      refine JL.skip (.bool rfl rfl rfl hc470) rfl ?_
                                      refine JL.skip (.bool rfl rfl rfl hc470) rfl ?_
                                      refine JL.pick_t (b := p457) rfl hc470 .none rfl ?_
                                      obtain rfl := Option.some.inj hF
                                      exact hJ469 _ ⟨rfl, rfl, rfl, rfl, rfl, rfl⟩
                                    · skip
                                      refine JL.move (.some rfl rfl rfl hc470) rfl ?_
                                      refine JL.loadOwn 4 az_26 rfl rfl rfl (.some rfl rfl rfl hc470) rfl ?_
                                      refine JL.fieldAddr fo_28_0 rfl (.some rfl rfl rfl hc470) rfl ?_
                                      refine JL.loadOwn 3 az_3 rfl rfl rfl (.some rfl rfl rfl hc470) rfl ?_
                                      refine JL.move (.some rfl rfl rfl hc470) rfl ?_
                                      refine JL.fieldAddr fo_28_0 rfl (.some rfl rfl rfl hc470) rfl ?_
                                      refine JL.loadOwn 3 az_3 rfl rfl rfl (.some rfl rfl rfl hc470) rfl ?_
                                      obtain ⟨y471, hy471, hF⟩ := bind_some hF
                                      refine JL.indexSL (R := R_ref01_Pair) sl_40 (SL.mono R_ref01_Pair_mono hs161 ht_0) rfl hy471 (.some rfl rfl rfl hc470) rfl ?_
                                      rintro b472 o473 cs474 hc475 - rfl
                                      refine JL.loadH 0 az_45 rfl hc475 rfl (.some rfl rfl rfl hc470) rfl ?_
                                      obtain ⟨y476, hy476, hF⟩ := bind_some hF
                                      refine JL.callS (c_ref01_TurnsWith n H161 f_ f__v0 (SL.mono R_Section_mono hs161 hf__0) x_.Section y471 y476 hy476) rfl en_39 (.some rfl rfl rfl hc470) rfl ?_
                                      obtain ⟨y477, hy477, hF⟩ := bind_some hF
                                      refine JL.callS (c_law01_agrees n H161 y314.1 y476 y477 hy477) rfl en_38 (.some rfl rfl rfl hc470) rfl ?_
                                      refine JL.not rfl (.some rfl rfl rfl hc470) rfl ?_
                                      refine JL.pick_f (b := p457) rfl hc470 .none rfl ?_
                                      obtain rfl := Option.some.inj hF
                                      exact hJ469 _ ⟨rfl, rfl, rfl, rfl, rfl, rfl⟩
                                  · rintro f ⟨hf3, hf5, hf8, hf19, hf25, hf229⟩
                                    refine (JL.norm (i := 3) hf3 (JL.norm (i := 5) hf5 (JL.norm (i := 8) hf8 (JL.norm (i := 19) hf19 (JL.norm (i := 25) hf25 (JL.norm (i := 229) hf229 ?_))))))
                                    refine JL.move .none rfl ?_
                                    obtain ⟨p479, hp479, hF⟩ := bind_some hF
                                    refine JL.cut 11 (fun f => f 3 = .pointer (some ⟨b1, 0, none⟩) ∧ f 5 = .pointer (some ⟨b2, 0, none⟩) ∧ f 25 = .bool y426 ∧ f 241 = .bool p479) ?_ ?_
                                    · intro hJ480
                                      rcases ite_some hp479 with ⟨hc481, hF⟩ | ⟨hc481, hF⟩
                                      · skip
                                        refine JL.skip (.bool rfl rfl rfl hc481) rfl ?_
                                        refine JL.skip (.bool rfl rfl rfl hc481) rfl ?_
                                        refine JL.skip (.bool rfl rfl rfl hc481) rfl ?_
                                        refine JL.skip (.bool rfl rfl rfl hc481) rfl ?_
                                        refine JL.skip (.bool rfl rfl rfl hc481) rfl ?_
                                        refine JL.skip (.bool rfl rfl rfl hc481) rfl ?_
                                        refine JL.skip (.bool rfl rfl rfl hc481) rfl ?_
                                        refine JL.skip (.bool rfl rfl rfl hc481) rfl ?_
                                        refine JL.skip (.bool rfl rfl rfl hc481) rfl ?_
                                        refine JL.skip (.bool rfl rfl rfl hc481) rfl ?_
                                        refine JL.pick_t (b := p468) rfl hc481 .none rfl ?_
                                        obtain rfl := Option.some.inj hF
                                        exact hJ480 _ ⟨rfl, rfl, rfl, rfl⟩
                                      · skip
                                        refine JL.move (.some rfl rfl rfl hc481) rfl ?_
                                        refine JL.fieldAddr fo_26_4 rfl (.some rfl rfl rfl hc481) rfl ?_
                                        refine JL.loadOwn 4 az_3 rfl rfl rfl (.some rfl rfl rfl hc481) rfl ?_
                                        refine JL.move (.some rfl rfl rfl hc481) rfl ?_
                                        refine JL.bin rfl rfl rfl (.some rfl rfl rfl hc481) rfl ?_
                                        refine JL.fieldAddr fo_26_5 rfl (.some rfl rfl rfl hc481) rfl ?_
                                        refine JL.loadOwn 4 az_3 rfl rfl rfl (.some rfl rfl rfl hc481) rfl ?_
                                        refine JL.bin rfl rfl rfl (.some rfl rfl rfl hc481) rfl ?_
                                        obtain ⟨y482, hy482, hF⟩ := bind_some hF
                                        refine JL.callS (c_law01_agrees n H161 y315.1 (decide ((w64 (f_.Rod + long_160)) ≤ f_.Case)) y482 hy482) rfl en_38 (.some rfl rfl rfl hc481) rfl ?_
                                        refine JL.not rfl (.some rfl rfl rfl hc481) rfl ?_
                                        refine JL.pick_f (b := p468) rfl hc481 .none rfl ?_
                                        obtain rfl := Option.some.inj hF
                                        exact hJ480 _ ⟨rfl, rfl, rfl, rfl⟩
                                    · rintro f ⟨hf3, hf5, hf25, hf241⟩
                                      refine (JL.norm (i := 3) hf3 (JL.norm (i := 5) hf5 (JL.norm (i := 25) hf25 (JL.norm (i := 241) hf241 ?_))))
                                      refine JL.doneQ hQ ?_
                                      refine JQ.go ?_
                                      rcases ite_some hF with ⟨hc483, hF⟩ | ⟨hc483, hF⟩
                                      · refine JC.cond_t (b := p479) rfl hc483 ?_
                                        refine JC.seq ?_
                                        refine JC.region (by rfl) ?_
                                        intro hQ
                                        refine JL.assign .none rfl ?_
                                        refine JL.done hQ ?_
                                        refine JQ.go ?_
                                        refine JC.ret ?_
                                        refine JQ.ret_then ?_
                                        obtain rfl := Option.some.inj hF
                                        exact JQ.outS rfl (.tmp .nil) rfl
                                      · refine JC.cond_f (b := p479) rfl hc483 ?_
                                        refine JC.skip ?_
                                        refine JQ.go ?_
                                        refine JC.seq ?_
                                        refine JC.region (by rfl) ?_
                                        intro hQ
                                        refine JL.loadOwn 4 az_26 rfl rfl rfl .none rfl ?_
                                        obtain ⟨y484, hy484, hF⟩ := bind_some hF
                                        refine JL.callS (c_frames_First n H161 f_ f__v0 (SL.mono R_Section_mono hs161 hf__0) y484 hy484) rfl en_28 .none rfl ?_
                                        refine JL.move .none rfl ?_
                                        refine JL.extract rfl rfl .none rfl ?_
                                        refine JL.extract rfl rfl .none rfl ?_
                                        refine JL.extract rfl rfl .none rfl ?_
                                        refine JL.assign .none rfl ?_
                                        refine JL.assign .none rfl ?_
                                        refine JL.assign .none rfl ?_
                                        refine JL.done hQ ?_
                                        refine JQ.go ?_
                                        refine JC.seq ?_
                                        refine JC.seq ?_
                                        refine JC.region (by rfl) ?_
                                        intro hQ
                                        refine JL.move .none rfl ?_
                                        refine JL.bin rfl rfl rfl .none rfl ?_
                                        refine JL.done hQ ?_
                                        refine JQ.go ?_
                                        refine JC.fresh (fun f => f 5 = .pointer (some ⟨b2, 0, none⟩) ∧ f 25 = .bool y426 ∧ f 27 = .int .i64 y484.2.1 ∧ f 28 = .int .i64 y484.2.2 ∧ f 249 = .bool (y484.2.2 == 0)) ⟨rfl, rfl, rfl, rfl, rfl⟩ ?_
                                        rintro f ⟨hf5, hf25, hf27, hf28, hf249⟩
                                        refine (JC.norm (i := 5) hf5 (JC.norm (i := 25) hf25 (JC.norm (i := 27) hf27 (JC.norm (i := 28) hf28 (JC.norm (i := 249) hf249 ?_)))))
                                        rcases ite_some hF with ⟨hc485, hF⟩ | ⟨hc485, hF⟩
                                        · refine JC.cond_t (b := (y484.2.2 == 0)) rfl hc485 ?_
                                          refine JC.seq ?_
                                          refine JC.region (by rfl) ?_
                                          intro hQ
                                          refine JL.move .none rfl ?_
                                          refine JL.not rfl .none rfl ?_
                                          refine JL.move .none rfl ?_
                                          refine JL.cut 5 (fun f => f 257 = .bool ((!y426) || (decide (x_.R ≤ y484.2.1)))) ?_ ?_
                                          · intro hJ486
                                            rcases bcases (!y426) with hc487 | hc487
                                            · skip
                                              refine JL.skip (.bool rfl rfl rfl hc487) rfl ?_
                                              refine JL.skip (.bool rfl rfl rfl hc487) rfl ?_
                                              refine JL.skip (.bool rfl rfl rfl hc487) rfl ?_
                                              refine JL.skip (.bool rfl rfl rfl hc487) rfl ?_
                                              refine JL.pick_t (b := (!y426)) rfl hc487 .none rfl ?_
                                              exact hJ486 _ (or_t hc487 rfl)
                                            · skip
                                              refine JL.fieldAddr fo_28_1 rfl (.some rfl rfl rfl hc487) rfl ?_
                                              refine JL.loadOwn 3 az_3 rfl rfl rfl (.some rfl rfl rfl hc487) rfl ?_
                                              refine JL.move (.some rfl rfl rfl hc487) rfl ?_
                                              refine JL.bin rfl rfl rfl (.some rfl rfl rfl hc487) rfl ?_
                                              refine JL.pick_f (b := (!y426)) rfl hc487 .none rfl ?_
                                              exact hJ486 _ (or_f hc487 rfl)
                                          · rintro f hf257
                                            refine (JL.norm (i := 257) hf257 ?_)
                                            refine JL.move .none rfl ?_
                                            obtain ⟨p489, hp489, hF⟩ := bind_some hF
                                            refine JL.cut 2 (fun f => f 260 = .bool p489) ?_ ?_
                                            · intro hJ490
                                              rcases ite_some hp489 with ⟨hc491, hF⟩ | ⟨hc491, hF⟩
                                              · skip
                                                obtain ⟨y492, hy492, hF⟩ := bind_some hF
                                                refine JL.callS (c_law01_works n H161 y492 hy492) rfl en_12 (.some rfl rfl rfl hc491) rfl ?_
                                                refine JL.pick_t (b := ((!y426) || (decide (x_.R ≤ y484.2.1)))) rfl hc491 .none rfl ?_
                                                obtain rfl := Option.some.inj hF
                                                exact hJ490 _ (rfl)
                                              · skip
                                                refine JL.skip (.bool rfl rfl rfl hc491) rfl ?_
                                                refine JL.pick_f (b := ((!y426) || (decide (x_.R ≤ y484.2.1)))) rfl hc491 .none rfl ?_
                                                obtain rfl := Option.some.inj hF
                                                exact hJ490 _ (rfl)
                                            · rintro f hf260
                                              refine (JL.norm (i := 260) hf260 ?_)
                                              refine JL.assign .none rfl ?_
                                              refine JL.done hQ ?_
                                              refine JQ.go ?_
                                              refine JC.ret ?_
                                              refine JQ.ret_then ?_
                                              obtain rfl := Option.some.inj hF
                                              exact JQ.outS rfl (.tmp .nil) rfl
                                        · refine JC.cond_f (b := (y484.2.2 == 0)) rfl hc485 ?_
                                          refine JC.skip ?_
                                          refine JQ.go ?_
                                          refine JC.seq ?_
                                          refine JC.region (by rfl) ?_
                                          intro hQ
                                          refine JL.move .none rfl ?_
                                          refine JL.bin rfl rfl rfl .none rfl ?_
                                          refine JL.move .none rfl ?_
                                          refine JL.cut 3 (fun f => f 266 = .bool ((y484.2.2 == 3) && (!y426))) ?_ ?_
                                          · intro hJ493
                                            rcases bcases (y484.2.2 == 3) with hc494 | hc494
                                            · skip
                                              refine JL.move (.some rfl rfl rfl hc494) rfl ?_
                                              refine JL.not rfl (.some rfl rfl rfl hc494) rfl ?_
                                              refine JL.pick_t (b := (y484.2.2 == 3)) rfl hc494 .none rfl ?_
                                              exact hJ493 _ (and_t hc494 rfl)
                                            · skip
                                              refine JL.skip (.bool rfl rfl rfl hc494) rfl ?_
                                              refine JL.skip (.bool rfl rfl rfl hc494) rfl ?_
                                              refine JL.pick_f (b := (y484.2.2 == 3)) rfl hc494 .none rfl ?_
                                              exact hJ493 _ (and_f hc494 rfl)
                                          · rintro f hf266
                                            refine (JL.norm (i := 266) hf266 ?_)
                                            refine JL.move .none rfl ?_
                                            obtain ⟨p496, hp496, hF⟩ := bind_some hF
                                            refine JL.cut 2 (fun f => f 269 = .bool p496) ?_ ?_
                                            · intro hJ497
                                              rcases ite_some hp496 with ⟨hc498, hF⟩ | ⟨hc498, hF⟩
                                              · skip
                                                obtain ⟨y499, hy499, hF⟩ := bind_some hF
                                                refine JL.callS (c_law01_works n H161 y499 hy499) rfl en_12 (.some rfl rfl rfl hc498) rfl ?_
                                                refine JL.pick_t (b := ((y484.2.2 == 3) && (!y426))) rfl hc498 .none rfl ?_
                                                obtain rfl := Option.some.inj hF
                                                exact hJ497 _ (rfl)
                                              · skip
                                                refine JL.skip (.bool rfl rfl rfl hc498) rfl ?_
                                                refine JL.pick_f (b := ((y484.2.2 == 3) && (!y426))) rfl hc498 .none rfl ?_
                                                obtain rfl := Option.some.inj hF
                                                exact hJ497 _ (rfl)
                                            · rintro f hf269
                                              refine (JL.norm (i := 269) hf269 ?_)
                                              refine JL.assign .none rfl ?_
                                              refine JL.done hQ ?_
                                              refine JQ.go ?_
                                              refine JC.ret ?_
                                              obtain rfl := Option.some.inj hF
                                              exact JQ.outS rfl (.tmp .nil) rfl

end Go.Proofs.Ytmgnhaibbeinbaa
