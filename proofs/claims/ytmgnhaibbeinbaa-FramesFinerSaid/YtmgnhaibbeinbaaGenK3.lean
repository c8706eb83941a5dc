/-
  Printed by a program: functions of the translation as plain functions, and their contracts.
-/
import Derived.Test.YtmgnhaibbeinbaaGenK2
namespace Go.Proofs.Ytmgnhaibbeinbaa
open Go Go.RowKit Go.Dec
set_option linter.unusedVariables false
-- 80 ferrule/frames.stuck$1
def F_frames_stuck_1_s1 (n : Nat) (x_ : frames_sides) (c_0 : Frame) (c_1 : Int) : Unit → Int → Option (Unit ⊕ Bool)
  | _, x6 => (F_frames_distance n c_0 c_1 x6).bind fun y29 => (F_frames_sides_binds n x_ y29 c_0.Ease).bind fun y30 => if y30 = true then (some (Sum.inr true)) else (some (Sum.inl ()))
def F_frames_stuck_1 (n : Nat) (x_ : frames_sides) (c_0 : Frame) (c_1 : Int) : Option Bool :=
  (F_frames_positions n c_0).bind fun y3 => (I_frames_positions_1 n y3 (F_frames_stuck_1_s1 n x_ c_0 c_1) ()).bind fun r24 => match r24 with | .inl _ => some false | .inr z_22 => some z_22
set_option maxRecDepth 100000 in
set_option maxHeartbeats 40000000 in
theorem c_frames_stuck_1 (n : Nat) (H : Hp) (x_ : frames_sides) (c_0 : Frame) (c_0_v0 : Value) (hc_0_0 : SL H 7 R_Section c_0_v0 c_0.Sections) (c_0_b : Nat) (c_0_c : Cells H c_0_b 0 [c_0_v0, .int .i64 c_0.Low, .int .i64 c_0.High, .int .i64 c_0.Ease.Num, .int .i64 c_0.Ease.Den, .int .i64 c_0.Rod, .int .i64 c_0.Case]) (c_1 : Int) (c_1_b : Nat) (c_1_c : Cells H c_1_b 0 [.int .i64 c_1]) (y : Bool) (hF : F_frames_stuck_1 n x_ c_0 c_1 = some y) : SC Try.prog 80 [.agg [.int .i64 x_.arm, .int .i64 x_.stretch].toArray, .pointer (some ⟨c_0_b, 0, none⟩), .pointer (some ⟨c_1_b, 0, none⟩)] (.bool y) H := by
  rw [F_frames_stuck_1] at hF
  refine SC.ofM (N := 17) Try.func80 rfl rfl rfl fun w => ?_
  refine JC.seq ?_
  refine JC.region (by rfl) ?_
  intro hQ
  refine JL.box (cs := [.int .i64 x_.arm, .int .i64 x_.stretch]) rfl .none rfl ?_
  intro b1
  refine JL.alloc ze_4 .none rfl ?_
  intro b2
  refine JL.done hQ ?_
  refine JQ.go ?_
  refine JC.seq ?_
  refine JC.seq ?_
  refine JC.region (by rfl) ?_
  intro hQ
  refine JL.loadH 0 az_26 rfl c_0_c rfl .none rfl ?_
  obtain ⟨y3, hy3, hF⟩ := bind_some hF
  refine JL.callH (c_frames_positions n H c_0 c_0_v0 hc_0_0 y3 hy3) rfl en_69 .none rfl ?_
  rintro H4 vv5 hs4 ⟨y3_b0, y3_0_v0, rfl, hy3_b0, hy3_0_0⟩
  refine JL.done hQ ?_
  refine JQ.go ?_
  refine JC.block ?_
  obtain ⟨r24, hl25, hF⟩ := bind_some hF
  refine JC.rangeFunc (ρ := Bool) (V := (VPlain fun (x : Int) => .int .i64 x)) (F := fun _ _ step s => I_frames_positions_1 n y3 step s) rfl en_79 (it_frames_positions_1 n H4 y3 y3_0_v0 hy3_0_0 y3_b0 hy3_b0) rfl hl25 (fun (_ : Unit) H21 fr gs => fr = [(b2, .cells [.bool false].toArray 4), (b1, .cells [.int .i64 x_.arm, .int .i64 x_.stretch].toArray 82)] ∧ gs = [] ∧ HSub H4 H21) (fun (z_22 : Bool) (c : Code) H23 fr gs => c = .ret ∧ fr = [(b2, .cells [.bool z_22].toArray 4), (b1, .cells [.int .i64 x_.arm, .int .i64 x_.stretch].toArray 82)] ∧ gs = [] ∧ HSub H4 H23) ⟨rfl, rfl, (HSub.refl _)⟩ ?_ ?_ ?_
  · rintro l7 _ x6 y26 v8 own T9 H21 fr gs ⟨rfl, rfl, hs21⟩ hF ⟨rfl, rfl⟩ -
    rw [F_frames_stuck_1_s1] at hF
    refine JC.region (by rfl) ?_
    intro hQ
    refine JL.assign .none rfl ?_
    refine JL.done hQ ?_
    refine JQ.assigned [(b2, .cells [.bool false].toArray 4), (b1, .cells [.int .i64 x_.arm, .int .i64 x_.stretch].toArray 82)] (fun T10 => ?_)
    refine JC.block ?_
    refine JC.seq ?_
    refine JC.draw (by rfl) mo_ (by kernel_rfl) ?_
    intro hQ
    refine JL.loadOwn 1 az_82 rfl rfl rfl .none rfl ?_
    refine JL.loadH 0 az_26 rfl (Cells.mono (HSub.trans hs4 hs21) c_0_c) rfl .none rfl ?_
    refine JL.loadH 0 az_3 rfl (Cells.mono (HSub.trans hs4 hs21) c_1_c) rfl .none rfl ?_
    refine JL.move .none rfl ?_
    obtain ⟨y29, hy29, hF⟩ := bind_some hF
    refine JL.callS (c_frames_distance n H21 c_0 c_0_v0 (SL.mono R_Section_mono (HSub.trans hs4 hs21) hc_0_0) c_1 x6 y29 hy29) rfl en_57 .none rfl ?_
    refine JL.fieldAddr fo_26_3 rfl .none rfl ?_
    refine JL.loadH 3 az_24 rfl (Cells.mono (HSub.trans hs4 hs21) c_0_c) rfl .none rfl ?_
    obtain ⟨y30, hy30, hF⟩ := bind_some hF
    refine JL.callS (c_frames_sides_binds n H21 x_ y29 c_0.Ease y30 hy30) rfl en_78 .none rfl ?_
    refine JL.doneQ hQ ?_
    refine JQ.go ?_
    refine JC.fresh (fun f => f 4 = .pointer (some ⟨b2, 0, none⟩) ∧ f 16 = .bool y30) ⟨rfl, rfl⟩ ?_
    rintro f ⟨hf4, hf16⟩
    refine (JC.norm (i := 4) hf4 (JC.norm (i := 16) hf16 ?_))
    rcases ite_some hF with ⟨hc31, hF⟩ | ⟨hc31, hF⟩
    · refine JC.cond_t (b := y30) rfl hc31 ?_
      refine JC.seq ?_
      refine JC.region (by rfl) ?_
      intro hQ
      refine JL.storeOwn 0 (cs := [.bool true]) az_4 rfl rfl rfl (one_cons rfl one_nil) rfl rfl .none ?_
      refine JL.done hQ ?_
      refine JQ.go ?_
      refine JC.ret ?_
      refine JQ.ret_block ?_
      obtain rfl := Option.some.inj hF
      refine JQ.roundRet rfl [(b2, .cells [.bool true].toArray 4), (b1, .cells [.int .i64 x_.arm, .int .i64 x_.stretch].toArray 82)] (HSub.refl _) ?_
      exact ⟨rfl, rfl, rfl, hs21⟩
    · refine JC.cond_f (b := y30) rfl hc31 ?_
      refine JC.skip ?_
      refine JQ.normal_block ?_
      obtain rfl := Option.some.inj hF
      refine JQ.round rfl [(b2, .cells [.bool false].toArray 4), (b1, .cells [.int .i64 x_.arm, .int .i64 x_.stretch].toArray 82)] (HSub.refl _) ?_
      exact ⟨rfl, rfl, hs21⟩
  · rintro D32 _ H21 fr gs rfl ⟨rfl, rfl, hs21⟩ -
    try dsimp only at hF
    refine JQ.normal_block ?_
    refine JQ.go ?_
    refine JC.seq ?_
    refine JC.region (by rfl) ?_
    intro hQ
    refine JL.storeOwn 0 (cs := [.bool false]) az_4 rfl rfl rfl (one_cons rfl one_nil) rfl rfl .none ?_
    refine JL.done hQ ?_
    refine JQ.go ?_
    refine JC.ret ?_
    obtain rfl := Option.some.inj hF
    exact JQ.outSM rfl (.cons 2 rfl .nil) (.cell 0 az_4 rfl rfl rfl .nil) rfl
  · rintro D33 z_22 _ H23 fr gs rfl ⟨rfl, rfl, rfl, hs23⟩ -
    try dsimp only at hF
    refine JC.ret ?_
    refine JQ.ret_block ?_
    refine JQ.ret_then ?_
    obtain rfl := Option.some.inj hF
    exact JQ.outSM rfl (.cons 2 rfl .nil) (.cell 0 az_4 rfl rfl rfl .nil) rfl

-- 70 ferrule/frames.stuck
def F_frames_stuck (n : Nat) (f_ : Frame) (section_ : Int) : Option Int :=
  (geti f_.Sections section_).bind fun y3 => (F_frames_known n y3 (fun a0_ => F_frames_stuck_1 n a0_ f_ section_)).bind fun y12 => some y12
set_option maxRecDepth 100000 in
set_option maxHeartbeats 40000000 in
theorem c_frames_stuck (n : Nat) (H : Hp) (f_ : Frame) (f__v0 : Value) (hf__0 : SL H 7 R_Section f__v0 f_.Sections) (section_ : Int) (y : Int) (hF : F_frames_stuck n f_ section_ = some y) : SC Try.prog 70 [.agg [f__v0, .int .i64 f_.Low, .int .i64 f_.High, .int .i64 f_.Ease.Num, .int .i64 f_.Ease.Den, .int .i64 f_.Rod, .int .i64 f_.Case].toArray, .int .i64 section_] (.int .i64 y) H := by
  rw [F_frames_stuck] at hF
  refine SC.of (N := 12) Try.func70 rfl rfl rfl fun w => ?_
  refine JC.seq ?_
  refine JC.region (by rfl) ?_
  intro hQ
  refine JL.box (cs := [f__v0, .int .i64 f_.Low, .int .i64 f_.High, .int .i64 f_.Ease.Num, .int .i64 f_.Ease.Den, .int .i64 f_.Rod, .int .i64 f_.Case]) rfl .none rfl ?_
  intro b1
  refine JL.box (cs := [.int .i64 section_]) rfl .none rfl ?_
  intro b2
  refine JL.assign .none rfl ?_
  refine JL.done hQ ?_
  refine JQ.go ?_
  refine JC.seq ?_
  refine JC.region (by rfl) ?_
  intro hQ
  refine JL.fieldAddr fo_26_0 rfl .none rfl ?_
  refine JL.loadOwn 1 az_22 rfl rfl rfl .none rfl ?_
  refine JL.loadOwn 0 az_3 rfl rfl rfl .none rfl ?_
  obtain ⟨y3, hy3, hF⟩ := bind_some hF
  refine JL.indexSL (R := R_Section) sl_22 hf__0 rfl hy3 .none rfl ?_
  rintro b4 o5 cs6 hc7 - rfl
  refine JL.loadH 0 az_61 rfl hc7 rfl .none rfl ?_
  refine JL.makeFunc .none rfl ?_
  refine JL.freezeC 1 (l := [f__v0, .int .i64 f_.Low, .int .i64 f_.High, .int .i64 f_.Ease.Num, .int .i64 f_.Ease.Den, .int .i64 f_.Rod, .int .i64 f_.Case]) rfl ?_
  intro H8 hs8 hc9
  refine JL.freezeC 0 (l := [.int .i64 section_]) rfl ?_
  intro H10 hs10 hc11
  obtain ⟨y12, hy12, hF⟩ := bind_some hF
  refine JL.callS (c_frames_known n H10 y3 (fun a0_ => F_frames_stuck_1 n a0_ f_ section_) 80 [.pointer (some ⟨b1, 0, none⟩), .pointer (some ⟨b2, 0, none⟩)] en_80 (fun H' hs' a0_ y' hy' => c_frames_stuck_1 n H' a0_ f_ f__v0 (SL.mono R_Section_mono hs' (SL.mono R_Section_mono (HSub.trans hs8 hs10) hf__0)) b1 (Cells.mono hs' (Cells.mono hs10 hc9)) section_ b2 (Cells.mono hs' hc11) y' hy') y12 hy12) rfl en_71 .none rfl ?_
  refine JL.assign .none rfl ?_
  refine JL.done hQ ?_
  refine JQ.go ?_
  refine JC.ret ?_
  obtain rfl := Option.some.inj hF
  exact JQ.outS rfl (.tmp .nil) rfl

-- 30 ferrule/frames.Opens
def F_frames_Opens_s1 (n : Nat) (f_ : Frame) : Int × Int → Option ((Int × Int) ⊕ ((Int × Int) ⊕ Int))
  | (out_64, x_65) => if decide (x_65 < (f_.Sections.length : Int)) = true then ((F_frames_stuck n f_ x_65).bind fun y70 => if (y70 == 1) = true then (some (Sum.inr (Sum.inl (2, 0)))) else ((if (y70 == 3) = true then (some 3) else (some out_64)).bind fun out_73 => some (Sum.inl (out_73, (w64 (x_65 + 1)))))) else (some (Sum.inr (Sum.inr out_64)))
def F_frames_Opens (n : Nat) (f_ : Frame) : Option (Int × Int) :=
  (F_frames_Check n f_).bind fun y2 => if (y2 != 0) = true then (some (0, y2)) else ((loopO n (F_frames_Opens_s1 n f_) (1, 0)).bind fun r41 => match r41 with | .inl o => some o | .inr out_39 => some (out_39, 0))
set_option maxRecDepth 100000 in
set_option maxHeartbeats 40000000 in
theorem c_frames_Opens (n : Nat) (H : Hp) (f_ : Frame) (f__v0 : Value) (hf__0 : SL H 7 R_Section f__v0 f_.Sections) (y : Int × Int) (hF : F_frames_Opens n f_ = some y) : SC Try.prog 30 [.agg [f__v0, .int .i64 f_.Low, .int .i64 f_.High, .int .i64 f_.Ease.Num, .int .i64 f_.Ease.Den, .int .i64 f_.Rod, .int .i64 f_.Case].toArray] (.tuple [.int .i64 y.1, .int .i64 y.2].toArray) H := by
  rw [F_frames_Opens] at hF
  refine SC.of (N := 27) Try.func30 rfl rfl rfl fun w => ?_
  refine JC.seq ?_
  refine JC.region (by rfl) ?_
  intro hQ
  refine JL.box (cs := [f__v0, .int .i64 f_.Low, .int .i64 f_.High, .int .i64 f_.Ease.Num, .int .i64 f_.Ease.Den, .int .i64 f_.Rod, .int .i64 f_.Case]) rfl .none rfl ?_
  intro b1
  refine JL.assign .none rfl ?_
  refine JL.assign .none rfl ?_
  refine JL.done hQ ?_
  refine JQ.go ?_
  refine JC.seq ?_
  refine JC.seq ?_
  refine JC.region (by rfl) ?_
  intro hQ
  refine JL.loadOwn 0 az_26 rfl rfl rfl .none rfl ?_
  obtain ⟨y2, hy2, hF⟩ := bind_some hF
  refine JL.callS (c_frames_Check n H f_ f__v0 hf__0 y2 hy2) rfl en_14 .none rfl ?_
  refine JL.assign .none rfl ?_
  refine JL.done hQ ?_
  refine JQ.go ?_
  refine JC.seq ?_
  refine JC.region (by rfl) ?_
  intro hQ
  refine JL.move .none rfl ?_
  refine JL.bin rfl rfl rfl .none rfl ?_
  refine JL.done hQ ?_
  refine JQ.go ?_
  rcases ite_some hF with ⟨hc3, hF⟩ | ⟨hc3, hF⟩
  · refine JC.cond_t (b := (y2 != 0)) rfl hc3 ?_
    refine JC.seq ?_
    refine JC.region (by rfl) ?_
    intro hQ
    refine JL.move .none rfl ?_
    refine JL.assign .none rfl ?_
    refine JL.assign .none rfl ?_
    refine JL.done hQ ?_
    refine JQ.go ?_
    refine JC.ret ?_
    refine JQ.ret_then ?_
    obtain rfl := Option.some.inj hF
    exact JQ.outS rfl (.tmp (.tmp .nil)) rfl
  · refine JC.cond_f (b := (y2 != 0)) rfl hc3 ?_
    refine JC.skip ?_
    refine JQ.go ?_
    refine JC.seq ?_
    refine JC.region (by rfl) ?_
    intro hQ
    refine JL.assign .none rfl ?_
    refine JL.done hQ ?_
    refine JQ.go ?_
    refine JC.seq ?_
    refine JC.seq ?_
    refine JC.region (by rfl) ?_
    intro hQ
    refine JL.fieldAddr fo_26_0 rfl .none rfl ?_
    refine JL.loadOwn 0 az_22 rfl rfl rfl .none rfl ?_
    refine JL.lenSL (R := R_Section) ul_22 hf__0 .none rfl ?_
    refine JL.move .none rfl ?_
    refine JL.done hQ ?_
    refine JQ.go ?_
    refine JC.fresh (fun f => f 1 = .pointer (some ⟨b1, 0, none⟩) ∧ f 2 = .int .i64 0 ∧ f 3 = .int .i64 0 ∧ f 5 = .int .i64 1 ∧ f 14 = .int .i64 (f_.Sections.length : Int) ∧ f 15 = .int .i64 0) ⟨rfl, rfl, rfl, rfl, rfl, rfl⟩ ?_
    rintro f ⟨hf1, hf2, hf3, hf5, hf14, hf15⟩
    refine (JC.norm (i := 1) hf1 (JC.norm (i := 2) hf2 (JC.norm (i := 3) hf3 (JC.norm (i := 5) hf5 (JC.norm (i := 14) hf14 (JC.norm (i := 15) hf15 ?_))))))
    obtain ⟨r41, hlr41, hKr41⟩ := bind_some hF
    refine JC.join (fun (out_39 : Int) H40 f bs gs => f 5 = .int .i64 out_39 ∧ bs = [] ∧ gs = [] ∧ HSub H H40 ∧ Sum.inr out_39 = r41) ?_ ?_
    · skip
      refine JC.block ?_
      refine JC.loop hlr41 (fun (x : Int × Int) H66 f bs gs => match x with | (out_64, x_65) => f 1 = .pointer (some ⟨b1, 0, none⟩) ∧ f 5 = .int .i64 out_64 ∧ f 14 = .int .i64 (f_.Sections.length : Int) ∧ f 15 = .int .i64 x_65 ∧ bs = [(b1, .cells [f__v0, .int .i64 f_.Low, .int .i64 f_.High, .int .i64 f_.Ease.Num, .int .i64 f_.Ease.Den, .int .i64 f_.Rod, .int .i64 f_.Case].toArray 26)] ∧ gs = [] ∧ HSub H H66) ⟨rfl, rfl, rfl, rfl, rfl, rfl, (HSub.refl _)⟩ ?_
      rintro ⟨out_64, x_65⟩ x68 H66 f bs gs ⟨hf1, hf5, hf14, hf15, rfl, rfl, hs66⟩ hF hr67
      rw [F_frames_Opens_s1] at hF
      refine (JC.norm (i := 1) hf1 (JC.norm (i := 5) hf5 (JC.norm (i := 14) hf14 (JC.norm (i := 15) hf15 ?_))))
      refine JC.seq ?_
      refine JC.region (by rfl) ?_
      intro hQ
      refine JL.bin rfl rfl rfl .none rfl ?_
      refine JL.done hQ ?_
      refine JQ.go ?_
      refine JC.seq ?_
      rcases ite_some hF with ⟨hc69, hF⟩ | ⟨hc69, hF⟩
      · refine JC.cond_t (b := decide (x_65 < (f_.Sections.length : Int))) rfl hc69 ?_
        refine JC.skip ?_
        refine JQ.go ?_
        refine JC.seq ?_
        refine JC.block ?_
        refine JC.seq ?_
        refine JC.region (by rfl) ?_
        intro hQ
        refine JL.move .none rfl ?_
        refine JL.assign .none rfl ?_
        refine JL.done hQ ?_
        refine JQ.go ?_
        refine JC.seq ?_
        refine JC.region (by rfl) ?_
        intro hQ
        refine JL.loadOwn 0 az_26 rfl rfl rfl .none rfl ?_
        refine JL.move .none rfl ?_
        obtain ⟨y70, hy70, hF⟩ := bind_some hF
        refine JL.callS (c_frames_stuck n H66 f_ f__v0 (SL.mono R_Section_mono hs66 hf__0) x_65 y70 hy70) rfl en_70 .none rfl ?_
        refine JL.done hQ ?_
        refine JQ.go ?_
        refine JC.block ?_
        refine JC.seq ?_
        refine JC.region (by rfl) ?_
        intro hQ
        refine JL.bin rfl rfl rfl .none rfl ?_
        refine JL.assign .none rfl ?_
        refine JL.done hQ ?_
        refine JQ.go ?_
        rcases ite_some hF with ⟨hc71, hF⟩ | ⟨hc71, hF⟩
        · refine JC.cond_t (b := (y70 == 1)) rfl hc71 ?_
          refine JC.seq ?_
          refine JC.region (by rfl) ?_
          intro hQ
          refine JL.assign .none rfl ?_
          refine JL.assign .none rfl ?_
          refine JL.done hQ ?_
          refine JQ.go ?_
          refine JC.fresh (fun f => f 2 = .int .i64 2 ∧ f 3 = .int .i64 0) ⟨rfl, rfl⟩ ?_
          rintro f ⟨hf2, hf3⟩
          refine (JC.norm (i := 2) hf2 (JC.norm (i := 3) hf3 ?_))
          refine JC.ret ?_
          refine JQ.ret_block ?_
          refine JQ.ret_block ?_
          refine JQ.ret_then ?_
          refine JQ.ret_then ?_
          refine JQ.ret_block ?_
          refine JQ.ret_join ?_
          refine JQ.ret_then ?_
          obtain rfl := Option.some.inj hF
          have ehr67 := hr67 _ rfl
          subst ehr67
          have hF := hKr41
          try dsimp only at hF
          obtain rfl := Option.some.inj hF
          exact JQ.outS rfl (.tmp (.tmp .nil)) rfl
        · refine JC.cond_f (b := (y70 == 1)) rfl hc71 ?_
          refine JC.seq ?_
          refine JC.region (by rfl) ?_
          intro hQ
          refine JL.bin rfl rfl rfl .none rfl ?_
          refine JL.assign .none rfl ?_
          refine JL.done hQ ?_
          refine JQ.go ?_
          refine JC.fresh (fun f => f 1 = .pointer (some ⟨b1, 0, none⟩) ∧ f 5 = .int .i64 out_64 ∧ f 14 = .int .i64 (f_.Sections.length : Int) ∧ f 15 = .int .i64 x_65 ∧ f 23 = .bool (y70 == 3)) ⟨rfl, rfl, rfl, rfl, rfl⟩ ?_
          rintro f ⟨hf1, hf5, hf14, hf15, hf23⟩
          refine (JC.norm (i := 1) hf1 (JC.norm (i := 5) hf5 (JC.norm (i := 14) hf14 (JC.norm (i := 15) hf15 (JC.norm (i := 23) hf23 ?_)))))
          obtain ⟨r75, hlr75, hKr75⟩ := bind_some hF
          refine JC.join (fun (out_73 : Int) H74 f bs gs => f 1 = .pointer (some ⟨b1, 0, none⟩) ∧ f 5 = .int .i64 out_73 ∧ f 14 = .int .i64 (f_.Sections.length : Int) ∧ f 15 = .int .i64 x_65 ∧ bs = [(b1, .cells [f__v0, .int .i64 f_.Low, .int .i64 f_.High, .int .i64 f_.Ease.Num, .int .i64 f_.Ease.Den, .int .i64 f_.Rod, .int .i64 f_.Case].toArray 26)] ∧ gs = [] ∧ HSub H66 H74 ∧ out_73 = r75) ?_ ?_
          · have hF := hlr75
            rcases ite_some hF with ⟨hc76, hF⟩ | ⟨hc76, hF⟩
            · refine JC.cond_t (b := (y70 == 3)) rfl hc76 ?_
              refine JC.region (by rfl) ?_
              intro hQ
              refine JL.assign .none rfl ?_
              refine JL.done hQ ?_
              obtain rfl := Option.some.inj hF
              exact JQ.join 3 ⟨rfl, rfl, rfl, rfl, rfl, rfl, (HSub.refl _), rfl⟩
            · refine JC.cond_f (b := (y70 == 3)) rfl hc76 ?_
              refine JC.skip ?_
              obtain rfl := Option.some.inj hF
              exact JQ.join out_64 ⟨rfl, rfl, rfl, rfl, rfl, rfl, (HSub.refl _), rfl⟩
          · rintro out_73 H74 f bs gs ⟨hf1, hf5, hf14, hf15, rfl, rfl, hs74, rfl⟩
            have hF := hKr75
            try dsimp only at hF
            refine (JQ.norm (i := 1) hf1 (JQ.norm (i := 5) hf5 (JQ.norm (i := 14) hf14 (JQ.norm (i := 15) hf15 ?_))))
            refine JQ.normal_block ?_
            refine JQ.normal_block ?_
            refine JQ.go ?_
            refine JC.region (by rfl) ?_
            intro hQ
            refine JL.bin rfl rfl rfl .none rfl ?_
            refine JL.move .none rfl ?_
            refine JL.done hQ ?_
            obtain rfl := Option.some.inj hF
            exact JQ.next rfl ⟨rfl, rfl, rfl, rfl, rfl, rfl, (HSub.trans hs66 hs74)⟩
      · refine JC.cond_f (b := decide (x_65 < (f_.Sections.length : Int))) rfl hc69 ?_
        refine JC.exit ?_
        refine JQ.exit_then ?_
        refine JQ.exit_then ?_
        refine JQ.exit_block ?_
        obtain rfl := Option.some.inj hF
        have ehr67 := hr67 _ rfl
        subst ehr67
        refine JQ.mask [false] [] ?_
        exact JQ.join out_64 ⟨rfl, rfl, rfl, hs66, rfl⟩
    · rintro out_39 H40 f bs gs ⟨hf5, rfl, rfl, hs40, rfl⟩
      have hF := hKr41
      try dsimp only at hF
      refine (JQ.norm (i := 5) hf5 ?_)
      refine JQ.go ?_
      refine JC.seq ?_
      refine JC.region (by rfl) ?_
      intro hQ
      refine JL.move .none rfl ?_
      refine JL.assign .none rfl ?_
      refine JL.assign .none rfl ?_
      refine JL.done hQ ?_
      refine JQ.go ?_
      refine JC.ret ?_
      obtain rfl := Option.some.inj hF
      exact JQ.outS rfl (.tmp (.tmp .nil)) rfl

-- 12 ferrule/ferrulelaw01.works
def F_law01_works (n : Nat)  : Option Bool :=
  (F_law01_Example n).bind fun y1 => (F_frames_Distance n y1 1 100).bind fun y5 => (F_frames_Cosine n y1 0 20).bind fun y6 => (F_frames_First n (Frame.mk y1.Sections y1.Low 106 y1.Ease y1.Rod y1.Case)).bind fun y9 => (F_frames_Opens n (Frame.mk y1.Sections y1.Low 106 y1.Ease y1.Rod y1.Case)).bind fun y10 => some ((((((((((y5.2 == 0) && (y6.2.2 == 0)) && (y9.2.2 == 0)) && (y10.2 == 0)) && (y5.1 == 55)) && ((y6.1.Num == (-7)) && (y6.1.Den == 20))) && ((y6.2.1.Num == (-31)) && (y6.2.1.Den == 130))) && (y9.1 == 0)) && (y9.2.1 == 106)) && (y10.1 == 3))
set_option maxRecDepth 100000 in
set_option maxHeartbeats 40000000 in
theorem c_law01_works (n : Nat) (H : Hp)  (y : Bool) (hF : F_law01_works n = some y) : SC Try.prog 12 [] (.bool y) H := by
  rw [F_law01_works] at hF
  refine SC.of (N := 76) Try.func12 rfl rfl rfl fun w => ?_
  refine JC.seq ?_
  refine JC.region (by rfl) ?_
  intro hQ
  refine JL.assign .none rfl ?_
  refine JL.done hQ ?_
  refine JQ.go ?_
  refine JC.seq ?_
  refine JC.region (by rfl) ?_
  intro hQ
  obtain ⟨y1, hy1, hF⟩ := bind_some hF
  refine JL.callH (c_law01_Example n H y1 hy1) rfl en_47 .none rfl ?_
  rintro H2 vv3 hs2 ⟨y1a_v0, rfl, hy1a_0⟩
  refine JL.alloc ze_26 .none rfl ?_
  intro b4
  refine JL.storeOwn 0 (cs := [y1a_v0, .int .i64 y1.Low, .int .i64 y1.High, .int .i64 y1.Ease.Num, .int .i64 y1.Ease.Den, .int .i64 y1.Rod, .int .i64 y1.Case]) az_26 rfl rfl rfl (one_cons (SL.one hy1a_0) (one_cons rfl (one_cons rfl (one_cons rfl (one_cons rfl (one_cons rfl (one_cons rfl one_nil))))))) rfl rfl .none ?_
  refine JL.done hQ ?_
  refine JQ.go ?_
  refine JC.seq ?_
  refine JC.region (by rfl) ?_
  intro hQ
  refine JL.loadOwn 0 az_26 rfl rfl rfl .none rfl ?_
  obtain ⟨y5, hy5, hF⟩ := bind_some hF
  refine JL.callS (c_frames_Distance n H2 y1 y1a_v0 hy1a_0 1 100 y5 hy5) rfl en_16 .none rfl ?_
  refine JL.move .none rfl ?_
  refine JL.extract rfl rfl .none rfl ?_
  refine JL.extract rfl rfl .none rfl ?_
  refine JL.assign .none rfl ?_
  refine JL.assign .none rfl ?_
  refine JL.done hQ ?_
  refine JQ.go ?_
  refine JC.seq ?_
  refine JC.region (by rfl) ?_
  intro hQ
  refine JL.loadOwn 0 az_26 rfl rfl rfl .none rfl ?_
  obtain ⟨y6, hy6, hF⟩ := bind_some hF
  refine JL.callS (c_frames_Cosine n H2 y1 y1a_v0 hy1a_0 0 20 y6 hy6) rfl en_18 .none rfl ?_
  refine JL.move .none rfl ?_
  refine JL.extract rfl rfl .none rfl ?_
  refine JL.extract rfl rfl .none rfl ?_
  refine JL.extract rfl rfl .none rfl ?_
  refine JL.alloc ze_24 .none rfl ?_
  intro b7
  refine JL.alloc ze_24 .none rfl ?_
  intro b8
  refine JL.storeOwn 1 (cs := [.int .i64 y6.1.Num, .int .i64 y6.1.Den]) az_24 rfl rfl rfl (one_cons rfl (one_cons rfl one_nil)) rfl rfl .none ?_
  refine JL.storeOwn 0 (cs := [.int .i64 y6.2.1.Num, .int .i64 y6.2.1.Den]) az_24 rfl rfl rfl (one_cons rfl (one_cons rfl one_nil)) rfl rfl .none ?_
  refine JL.assign .none rfl ?_
  refine JL.done hQ ?_
  refine JQ.go ?_
  refine JC.fresh (fun f => f 0 = .bool false ∧ f 1 = .pointer (some ⟨b4, 0, none⟩) ∧ f 2 = .int .i64 y5.1 ∧ f 3 = .int .i64 y5.2 ∧ f 4 = .pointer (some ⟨b7, 0, none⟩) ∧ f 5 = .pointer (some ⟨b8, 0, none⟩) ∧ f 6 = .int .i64 y6.2.2) ⟨rfl, rfl, rfl, rfl, rfl, rfl, rfl⟩ ?_
  rintro f ⟨hf0, hf1, hf2, hf3, hf4, hf5, hf6⟩
  refine (JC.norm (i := 0) hf0 (JC.norm (i := 1) hf1 (JC.norm (i := 2) hf2 (JC.norm (i := 3) hf3 (JC.norm (i := 4) hf4 (JC.norm (i := 5) hf5 (JC.norm (i := 6) hf6 ?_)))))))
  refine JC.seq ?_
  refine JC.region (by rfl) ?_
  intro hQ
  refine JL.fieldAddr fo_26_2 rfl .none rfl ?_
  refine JL.storeOwn 2 (cs := [.int .i64 106]) az_3 rfl rfl rfl (one_cons rfl one_nil) rfl rfl .none ?_
  refine JL.done hQ ?_
  refine JQ.go ?_
  refine JC.seq ?_
  refine JC.region (by rfl) ?_
  intro hQ
  refine JL.loadOwn 2 az_26 rfl rfl rfl .none rfl ?_
  obtain ⟨y9, hy9, hF⟩ := bind_some hF
  refine JL.callS (c_frames_First n H2 (Frame.mk y1.Sections y1.Low 106 y1.Ease y1.Rod y1.Case) y1a_v0 hy1a_0 y9 hy9) rfl en_28 .none rfl ?_
  refine JL.move .none rfl ?_
  refine JL.extract rfl rfl .none rfl ?_
  refine JL.extract rfl rfl .none rfl ?_
  refine JL.extract rfl rfl .none rfl ?_
  refine JL.assign .none rfl ?_
  refine JL.assign .none rfl ?_
  refine JL.assign .none rfl ?_
  refine JL.done hQ ?_
  refine JQ.go ?_
  refine JC.seq ?_
  refine JC.region (by rfl) ?_
  intro hQ
  refine JL.loadOwn 2 az_26 rfl rfl rfl .none rfl ?_
  obtain ⟨y10, hy10, hF⟩ := bind_some hF
  refine JL.callS (c_frames_Opens n H2 (Frame.mk y1.Sections y1.Low 106 y1.Ease y1.Rod y1.Case) y1a_v0 hy1a_0 y10 hy10) rfl en_30 .none rfl ?_
  refine JL.move .none rfl ?_
  refine JL.extract rfl rfl .none rfl ?_
  refine JL.extract rfl rfl .none rfl ?_
  refine JL.assign .none rfl ?_
  refine JL.assign .none rfl ?_
  refine JL.done hQ ?_
  refine JQ.go ?_
  refine JC.fresh (fun f => f 0 = .bool false ∧ f 2 = .int .i64 y5.1 ∧ f 3 = .int .i64 y5.2 ∧ f 4 = .pointer (some ⟨b7, 0, none⟩) ∧ f 5 = .pointer (some ⟨b8, 0, none⟩) ∧ f 6 = .int .i64 y6.2.2 ∧ f 7 = .int .i64 y9.1 ∧ f 8 = .int .i64 y9.2.1 ∧ f 9 = .int .i64 y9.2.2 ∧ f 10 = .int .i64 y10.1 ∧ f 11 = .int .i64 y10.2) ⟨rfl, rfl, rfl, rfl, rfl, rfl, rfl, rfl, rfl, rfl, rfl⟩ ?_
  rintro f ⟨hf0, hf2, hf3, hf4, hf5, hf6, hf7, hf8, hf9, hf10, hf11⟩
  refine (JC.norm (i := 0) hf0 (JC.norm (i := 2) hf2 (JC.norm (i := 3) hf3 (JC.norm (i := 4) hf4 (JC.norm (i := 5) hf5 (JC.norm (i := 6) hf6 (JC.norm (i := 7) hf7 (JC.norm (i := 8) hf8 (JC.norm (i := 9) hf9 (JC.norm (i := 10) hf10 (JC.norm (i := 11) hf11 ?_)))))))))))
  refine JC.seq ?_
  refine JC.region (by rfl) ?_
  intro hQ
  refine JL.move .none rfl ?_
  refine JL.bin rfl rfl rfl .none rfl ?_
  refine JL.move .none rfl ?_
  refine JL.cut 3 (fun f => f 2 = .int .i64 y5.1 ∧ f 4 = .pointer (some ⟨b7, 0, none⟩) ∧ f 5 = .pointer (some ⟨b8, 0, none⟩) ∧ f 7 = .int .i64 y9.1 ∧ f 8 = .int .i64 y9.2.1 ∧ f 9 = .int .i64 y9.2.2 ∧ f 10 = .int .i64 y10.1 ∧ f 11 = .int .i64 y10.2 ∧ f 41 = .bool ((y5.2 == 0) && (y6.2.2 == 0))) ?_ ?_
  · intro hJ11
    rcases bcases (y5.2 == 0) with hc12 | hc12
    · skip
      refine JL.move (.some rfl rfl rfl hc12) rfl ?_
      refine JL.bin rfl rfl rfl (.some rfl rfl rfl hc12) rfl ?_
      refine JL.pick_t (b := (y5.2 == 0)) rfl hc12 .none rfl ?_
      exact hJ11 _ ⟨rfl, rfl, rfl, rfl, rfl, rfl, rfl, rfl, and_t hc12 rfl⟩
    · skip
      refine JL.skip (.bool rfl rfl rfl hc12) rfl ?_
      refine JL.skip (.bool rfl rfl rfl hc12) rfl ?_
      refine JL.pick_f (b := (y5.2 == 0)) rfl hc12 .none rfl ?_
      exact hJ11 _ ⟨rfl, rfl, rfl, rfl, rfl, rfl, rfl, rfl, and_f hc12 rfl⟩
  · rintro f ⟨hf2, hf4, hf5, hf7, hf8, hf9, hf10, hf11, hf41⟩
    refine (JL.norm (i := 2) hf2 (JL.norm (i := 4) hf4 (JL.norm (i := 5) hf5 (JL.norm (i := 7) hf7 (JL.norm (i := 8) hf8 (JL.norm (i := 9) hf9 (JL.norm (i := 10) hf10 (JL.norm (i := 11) hf11 (JL.norm (i := 41) hf41 ?_)))))))))
    refine JL.move .none rfl ?_
    refine JL.cut 3 (fun f => f 2 = .int .i64 y5.1 ∧ f 4 = .pointer (some ⟨b7, 0, none⟩) ∧ f 5 = .pointer (some ⟨b8, 0, none⟩) ∧ f 7 = .int .i64 y9.1 ∧ f 8 = .int .i64 y9.2.1 ∧ f 10 = .int .i64 y10.1 ∧ f 11 = .int .i64 y10.2 ∧ f 45 = .bool (((y5.2 == 0) && (y6.2.2 == 0)) && (y9.2.2 == 0))) ?_ ?_
    · intro hJ13
      rcases bcases ((y5.2 == 0) && (y6.2.2 == 0)) with hc14 | hc14
      · skip
        refine JL.move (.some rfl rfl rfl hc14) rfl ?_
        refine JL.bin rfl rfl rfl (.some rfl rfl rfl hc14) rfl ?_
        refine JL.pick_t (b := ((y5.2 == 0) && (y6.2.2 == 0))) rfl hc14 .none rfl ?_
        exact hJ13 _ ⟨rfl, rfl, rfl, rfl, rfl, rfl, rfl, and_t hc14 rfl⟩
      · skip
        refine JL.skip (.bool rfl rfl rfl hc14) rfl ?_
        refine JL.skip (.bool rfl rfl rfl hc14) rfl ?_
        refine JL.pick_f (b := ((y5.2 == 0) && (y6.2.2 == 0))) rfl hc14 .none rfl ?_
        exact hJ13 _ ⟨rfl, rfl, rfl, rfl, rfl, rfl, rfl, and_f hc14 rfl⟩
    · rintro f ⟨hf2, hf4, hf5, hf7, hf8, hf10, hf11, hf45⟩
      refine (JL.norm (i := 2) hf2 (JL.norm (i := 4) hf4 (JL.norm (i := 5) hf5 (JL.norm (i := 7) hf7 (JL.norm (i := 8) hf8 (JL.norm (i := 10) hf10 (JL.norm (i := 11) hf11 (JL.norm (i := 45) hf45 ?_))))))))
      refine JL.move .none rfl ?_
      refine JL.cut 3 (fun f => f 2 = .int .i64 y5.1 ∧ f 4 = .pointer (some ⟨b7, 0, none⟩) ∧ f 5 = .pointer (some ⟨b8, 0, none⟩) ∧ f 7 = .int .i64 y9.1 ∧ f 8 = .int .i64 y9.2.1 ∧ f 10 = .int .i64 y10.1 ∧ f 49 = .bool ((((y5.2 == 0) && (y6.2.2 == 0)) && (y9.2.2 == 0)) && (y10.2 == 0))) ?_ ?_
      · intro hJ15
        rcases bcases (((y5.2 == 0) && (y6.2.2 == 0)) && (y9.2.2 == 0)) with hc16 | hc16
        · skip
          refine JL.move (.some rfl rfl rfl hc16) rfl ?_
          refine JL.bin rfl rfl rfl (.some rfl rfl rfl hc16) rfl ?_
          refine JL.pick_t (b := (((y5.2 == 0) && (y6.2.2 == 0)) && (y9.2.2 == 0))) rfl hc16 .none rfl ?_
          exact hJ15 _ ⟨rfl, rfl, rfl, rfl, rfl, rfl, and_t hc16 rfl⟩
        · skip
          refine JL.skip (.bool rfl rfl rfl hc16) rfl ?_
          refine JL.skip (.bool rfl rfl rfl hc16) rfl ?_
          refine JL.pick_f (b := (((y5.2 == 0) && (y6.2.2 == 0)) && (y9.2.2 == 0))) rfl hc16 .none rfl ?_
          exact hJ15 _ ⟨rfl, rfl, rfl, rfl, rfl, rfl, and_f hc16 rfl⟩
      · rintro f ⟨hf2, hf4, hf5, hf7, hf8, hf10, hf49⟩
        refine (JL.norm (i := 2) hf2 (JL.norm (i := 4) hf4 (JL.norm (i := 5) hf5 (JL.norm (i := 7) hf7 (JL.norm (i := 8) hf8 (JL.norm (i := 10) hf10 (JL.norm (i := 49) hf49 ?_)))))))
        refine JL.move .none rfl ?_
        refine JL.cut 3 (fun f => f 4 = .pointer (some ⟨b7, 0, none⟩) ∧ f 5 = .pointer (some ⟨b8, 0, none⟩) ∧ f 7 = .int .i64 y9.1 ∧ f 8 = .int .i64 y9.2.1 ∧ f 10 = .int .i64 y10.1 ∧ f 53 = .bool (((((y5.2 == 0) && (y6.2.2 == 0)) && (y9.2.2 == 0)) && (y10.2 == 0)) && (y5.1 == 55))) ?_ ?_
        · intro hJ17
          rcases bcases ((((y5.2 == 0) && (y6.2.2 == 0)) && (y9.2.2 == 0)) && (y10.2 == 0)) with hc18 | hc18
          · skip
            refine JL.move (.some rfl rfl rfl hc18) rfl ?_
            refine JL.bin rfl rfl rfl (.some rfl rfl rfl hc18) rfl ?_
            refine JL.pick_t (b := ((((y5.2 == 0) && (y6.2.2 == 0)) && (y9.2.2 == 0)) && (y10.2 == 0))) rfl hc18 .none rfl ?_
            exact hJ17 _ ⟨rfl, rfl, rfl, rfl, rfl, and_t hc18 rfl⟩
          · skip
            refine JL.skip (.bool rfl rfl rfl hc18) rfl ?_
            refine JL.skip (.bool rfl rfl rfl hc18) rfl ?_
            refine JL.pick_f (b := ((((y5.2 == 0) && (y6.2.2 == 0)) && (y9.2.2 == 0)) && (y10.2 == 0))) rfl hc18 .none rfl ?_
            exact hJ17 _ ⟨rfl, rfl, rfl, rfl, rfl, and_f hc18 rfl⟩
        · rintro f ⟨hf4, hf5, hf7, hf8, hf10, hf53⟩
          refine (JL.norm (i := 4) hf4 (JL.norm (i := 5) hf5 (JL.norm (i := 7) hf7 (JL.norm (i := 8) hf8 (JL.norm (i := 10) hf10 (JL.norm (i := 53) hf53 ?_))))))
          refine JL.move .none rfl ?_
          refine JL.cut 4 (fun f => f 5 = .pointer (some ⟨b8, 0, none⟩) ∧ f 7 = .int .i64 y9.1 ∧ f 8 = .int .i64 y9.2.1 ∧ f 10 = .int .i64 y10.1 ∧ f 58 = .bool ((((((y5.2 == 0) && (y6.2.2 == 0)) && (y9.2.2 == 0)) && (y10.2 == 0)) && (y5.1 == 55)) && ((y6.1.Num == (-7)) && (y6.1.Den == 20)))) ?_ ?_
          · intro hJ19
            rcases bcases (((((y5.2 == 0) && (y6.2.2 == 0)) && (y9.2.2 == 0)) && (y10.2 == 0)) && (y5.1 == 55)) with hc20 | hc20
            · skip
              refine JL.loadOwn 1 az_24 rfl rfl rfl (.some rfl rfl rfl hc20) rfl ?_
              refine JL.build (l := [.int .i64 (-7), .int .i64 20]) (by kernel_rfl) (.some rfl rfl rfl hc20) rfl ?_
              refine JL.eqAgg eqg_24 rfl rfl (fun w => eqa_24 y6.1.Num y6.1.Den (-7) 20 w) (.some rfl rfl rfl hc20) rfl ?_
              refine JL.pick_t (b := (((((y5.2 == 0) && (y6.2.2 == 0)) && (y9.2.2 == 0)) && (y10.2 == 0)) && (y5.1 == 55))) rfl hc20 .none rfl ?_
              exact hJ19 _ ⟨rfl, rfl, rfl, rfl, and_t hc20 rfl⟩
            · skip
              refine JL.skip (.bool rfl rfl rfl hc20) rfl ?_
              refine JL.skip (.bool rfl rfl rfl hc20) rfl ?_
              refine JL.skip (.bool rfl rfl rfl hc20) rfl ?_
              refine JL.pick_f (b := (((((y5.2 == 0) && (y6.2.2 == 0)) && (y9.2.2 == 0)) && (y10.2 == 0)) && (y5.1 == 55))) rfl hc20 .none rfl ?_
              exact hJ19 _ ⟨rfl, rfl, rfl, rfl, and_f hc20 rfl⟩
          · rintro f ⟨hf5, hf7, hf8, hf10, hf58⟩
            refine (JL.norm (i := 5) hf5 (JL.norm (i := 7) hf7 (JL.norm (i := 8) hf8 (JL.norm (i := 10) hf10 (JL.norm (i := 58) hf58 ?_)))))
            refine JL.move .none rfl ?_
            refine JL.cut 4 (fun f => f 7 = .int .i64 y9.1 ∧ f 8 = .int .i64 y9.2.1 ∧ f 10 = .int .i64 y10.1 ∧ f 63 = .bool (((((((y5.2 == 0) && (y6.2.2 == 0)) && (y9.2.2 == 0)) && (y10.2 == 0)) && (y5.1 == 55)) && ((y6.1.Num == (-7)) && (y6.1.Den == 20))) && ((y6.2.1.Num == (-31)) && (y6.2.1.Den == 130)))) ?_ ?_
            · intro hJ21
              rcases bcases ((((((y5.2 == 0) && (y6.2.2 == 0)) && (y9.2.2 == 0)) && (y10.2 == 0)) && (y5.1 == 55)) && ((y6.1.Num == (-7)) && (y6.1.Den == 20))) with hc22 | hc22
              · skip
                refine JL.loadOwn 0 az_24 rfl rfl rfl (.some rfl rfl rfl hc22) rfl ?_
                refine JL.build (l := [.int .i64 (-31), .int .i64 130]) (by kernel_rfl) (.some rfl rfl rfl hc22) rfl ?_
                refine JL.eqAgg eqg_24 rfl rfl (fun w => eqa_24 y6.2.1.Num y6.2.1.Den (-31) 130 w) (.some rfl rfl rfl hc22) rfl ?_
                refine JL.pick_t (b := ((((((y5.2 == 0) && (y6.2.2 == 0)) && (y9.2.2 == 0)) && (y10.2 == 0)) && (y5.1 == 55)) && ((y6.1.Num == (-7)) && (y6.1.Den == 20)))) rfl hc22 .none rfl ?_
                exact hJ21 _ ⟨rfl, rfl, rfl, and_t hc22 rfl⟩
              · skip
                refine JL.skip (.bool rfl rfl rfl hc22) rfl ?_
                refine JL.skip (.bool rfl rfl rfl hc22) rfl ?_
                refine JL.skip (.bool rfl rfl rfl hc22) rfl ?_
                refine JL.pick_f (b := ((((((y5.2 == 0) && (y6.2.2 == 0)) && (y9.2.2 == 0)) && (y10.2 == 0)) && (y5.1 == 55)) && ((y6.1.Num == (-7)) && (y6.1.Den == 20)))) rfl hc22 .none rfl ?_
                exact hJ21 _ ⟨rfl, rfl, rfl, and_f hc22 rfl⟩
            · rintro f ⟨hf7, hf8, hf10, hf63⟩
              refine (JL.norm (i := 7) hf7 (JL.norm (i := 8) hf8 (JL.norm (i := 10) hf10 (JL.norm (i := 63) hf63 ?_))))
              refine JL.move .none rfl ?_
              refine JL.cut 3 (fun f => f 8 = .int .i64 y9.2.1 ∧ f 10 = .int .i64 y10.1 ∧ f 67 = .bool ((((((((y5.2 == 0) && (y6.2.2 == 0)) && (y9.2.2 == 0)) && (y10.2 == 0)) && (y5.1 == 55)) && ((y6.1.Num == (-7)) && (y6.1.Den == 20))) && ((y6.2.1.Num == (-31)) && (y6.2.1.Den == 130))) && (y9.1 == 0))) ?_ ?_
              · intro hJ23
                rcases bcases (((((((y5.2 == 0) && (y6.2.2 == 0)) && (y9.2.2 == 0)) && (y10.2 == 0)) && (y5.1 == 55)) && ((y6.1.Num == (-7)) && (y6.1.Den == 20))) && ((y6.2.1.Num == (-31)) && (y6.2.1.Den == 130))) with hc24 | hc24
                · skip
                  refine JL.move (.some rfl rfl rfl hc24) rfl ?_
                  refine JL.bin rfl rfl rfl (.some rfl rfl rfl hc24) rfl ?_
                  refine JL.pick_t (b := (((((((y5.2 == 0) && (y6.2.2 == 0)) && (y9.2.2 == 0)) && (y10.2 == 0)) && (y5.1 == 55)) && ((y6.1.Num == (-7)) && (y6.1.Den == 20))) && ((y6.2.1.Num == (-31)) && (y6.2.1.Den == 130)))) rfl hc24 .none rfl ?_
                  exact hJ23 _ ⟨rfl, rfl, and_t hc24 rfl⟩
                · skip
                  refine JL.skip (.bool rfl rfl rfl hc24) rfl ?_
                  refine JL.skip (.bool rfl rfl rfl hc24) rfl ?_
                  refine JL.pick_f (b := (((((((y5.2 == 0) && (y6.2.2 == 0)) && (y9.2.2 == 0)) && (y10.2 == 0)) && (y5.1 == 55)) && ((y6.1.Num == (-7)) && (y6.1.Den == 20))) && ((y6.2.1.Num == (-31)) && (y6.2.1.Den == 130)))) rfl hc24 .none rfl ?_
                  exact hJ23 _ ⟨rfl, rfl, and_f hc24 rfl⟩
              · rintro f ⟨hf8, hf10, hf67⟩
                refine (JL.norm (i := 8) hf8 (JL.norm (i := 10) hf10 (JL.norm (i := 67) hf67 ?_)))
                refine JL.move .none rfl ?_
                refine JL.cut 3 (fun f => f 10 = .int .i64 y10.1 ∧ f 71 = .bool (((((((((y5.2 == 0) && (y6.2.2 == 0)) && (y9.2.2 == 0)) && (y10.2 == 0)) && (y5.1 == 55)) && ((y6.1.Num == (-7)) && (y6.1.Den == 20))) && ((y6.2.1.Num == (-31)) && (y6.2.1.Den == 130))) && (y9.1 == 0)) && (y9.2.1 == 106))) ?_ ?_
                · intro hJ25
                  rcases bcases ((((((((y5.2 == 0) && (y6.2.2 == 0)) && (y9.2.2 == 0)) && (y10.2 == 0)) && (y5.1 == 55)) && ((y6.1.Num == (-7)) && (y6.1.Den == 20))) && ((y6.2.1.Num == (-31)) && (y6.2.1.Den == 130))) && (y9.1 == 0)) with hc26 | hc26
                  · skip
                    refine JL.move (.some rfl rfl rfl hc26) rfl ?_
                    refine JL.bin rfl rfl rfl (.some rfl rfl rfl hc26) rfl ?_
                    refine JL.pick_t (b := ((((((((y5.2 == 0) && (y6.2.2 == 0)) && (y9.2.2 == 0)) && (y10.2 == 0)) && (y5.1 == 55)) && ((y6.1.Num == (-7)) && (y6.1.Den == 20))) && ((y6.2.1.Num == (-31)) && (y6.2.1.Den == 130))) && (y9.1 == 0))) rfl hc26 .none rfl ?_
                    exact hJ25 _ ⟨rfl, and_t hc26 rfl⟩
                  · skip
                    refine JL.skip (.bool rfl rfl rfl hc26) rfl ?_
                    refine JL.skip (.bool rfl rfl rfl hc26) rfl ?_
                    refine JL.pick_f (b := ((((((((y5.2 == 0) && (y6.2.2 == 0)) && (y9.2.2 == 0)) && (y10.2 == 0)) && (y5.1 == 55)) && ((y6.1.Num == (-7)) && (y6.1.Den == 20))) && ((y6.2.1.Num == (-31)) && (y6.2.1.Den == 130))) && (y9.1 == 0))) rfl hc26 .none rfl ?_
                    exact hJ25 _ ⟨rfl, and_f hc26 rfl⟩
                · rintro f ⟨hf10, hf71⟩
                  refine (JL.norm (i := 10) hf10 (JL.norm (i := 71) hf71 ?_))
                  refine JL.move .none rfl ?_
                  refine JL.cut 3 (fun f => f 75 = .bool ((((((((((y5.2 == 0) && (y6.2.2 == 0)) && (y9.2.2 == 0)) && (y10.2 == 0)) && (y5.1 == 55)) && ((y6.1.Num == (-7)) && (y6.1.Den == 20))) && ((y6.2.1.Num == (-31)) && (y6.2.1.Den == 130))) && (y9.1 == 0)) && (y9.2.1 == 106)) && (y10.1 == 3))) ?_ ?_
                  · intro hJ27
                    rcases bcases (((((((((y5.2 == 0) && (y6.2.2 == 0)) && (y9.2.2 == 0)) && (y10.2 == 0)) && (y5.1 == 55)) && ((y6.1.Num == (-7)) && (y6.1.Den == 20))) && ((y6.2.1.Num == (-31)) && (y6.2.1.Den == 130))) && (y9.1 == 0)) && (y9.2.1 == 106)) with hc28 | hc28
                    · skip
                      refine JL.move (.some rfl rfl rfl hc28) rfl ?_
                      refine JL.bin rfl rfl rfl (.some rfl rfl rfl hc28) rfl ?_
                      refine JL.pick_t (b := (((((((((y5.2 == 0) && (y6.2.2 == 0)) && (y9.2.2 == 0)) && (y10.2 == 0)) && (y5.1 == 55)) && ((y6.1.Num == (-7)) && (y6.1.Den == 20))) && ((y6.2.1.Num == (-31)) && (y6.2.1.Den == 130))) && (y9.1 == 0)) && (y9.2.1 == 106))) rfl hc28 .none rfl ?_
                      exact hJ27 _ (and_t hc28 rfl)
                    · skip
                      refine JL.skip (.bool rfl rfl rfl hc28) rfl ?_
                      refine JL.skip (.bool rfl rfl rfl hc28) rfl ?_
                      refine JL.pick_f (b := (((((((((y5.2 == 0) && (y6.2.2 == 0)) && (y9.2.2 == 0)) && (y10.2 == 0)) && (y5.1 == 55)) && ((y6.1.Num == (-7)) && (y6.1.Den == 20))) && ((y6.2.1.Num == (-31)) && (y6.2.1.Den == 130))) && (y9.1 == 0)) && (y9.2.1 == 106))) rfl hc28 .none rfl ?_
                      exact hJ27 _ (and_f hc28 rfl)
                  · rintro f hf75
                    refine (JL.norm (i := 75) hf75 ?_)
                    refine JL.assign .none rfl ?_
                    refine JL.done hQ ?_
                    refine JQ.go ?_
                    refine JC.ret ?_
                    obtain rfl := Option.some.inj hF
                    exact JQ.outS rfl (.tmp .nil) rfl

-- 13 ferrule/ferruleref01.Copy
def F_ref01_Copy (n : Nat) (f_ : Frame) : Option Frame :=
  (lim (([] : List Section) ++ f_.Sections)).bind fun l5 => some (Frame.mk l5 f_.Low f_.High f_.Ease f_.Rod f_.Case)
set_option maxRecDepth 100000 in
set_option maxHeartbeats 40000000 in
theorem c_ref01_Copy (n : Nat) (H : Hp) (f_ : Frame) (f__v0 : Value) (hf__0 : SL H 7 R_Section f__v0 f_.Sections) (y : Frame) (hF : F_ref01_Copy n f_ = some y) : HC Try.prog 13 [.agg [f__v0, .int .i64 f_.Low, .int .i64 f_.High, .int .i64 f_.Ease.Num, .int .i64 f_.Ease.Den, .int .i64 f_.Rod, .int .i64 f_.Case].toArray] H (fun H' v => ∃ ra_v0 : Value, v = .agg [ra_v0, .int .i64 y.Low, .int .i64 y.High, .int .i64 y.Ease.Num, .int .i64 y.Ease.Den, .int .i64 y.Rod, .int .i64 y.Case].toArray ∧ SL H' 7 R_Section ra_v0 y.Sections) := by
  rw [F_ref01_Copy] at hF
  refine HC.of (N := 9) Try.func13 rfl rfl rfl fun w => ?_
  refine JC.seq ?_
  refine JC.region (by rfl) ?_
  intro hQ
  refine JL.box (cs := [f__v0, .int .i64 f_.Low, .int .i64 f_.High, .int .i64 f_.Ease.Num, .int .i64 f_.Ease.Den, .int .i64 f_.Rod, .int .i64 f_.Case]) rfl .none rfl ?_
  intro b1
  refine JL.alloc ze_26 .none rfl ?_
  intro b2
  refine JL.done hQ ?_
  refine JQ.go ?_
  refine JC.seq ?_
  refine JC.region (by rfl) ?_
  intro hQ
  refine JL.emptySlice ap_22 .none rfl ?_
  intro v3
  refine JL.fieldAddr fo_26_0 rfl .none rfl ?_
  refine JL.loadOwn 1 az_22 rfl rfl rfl .none rfl ?_
  obtain ⟨l5, hl5, hF⟩ := bind_some hF
  refine JL.appD (R := R_Section) 0 (l := ([] : List Section)) (m := f_.Sections) ap_22 rfl ⟨rfl, rfl⟩ rfl CH.nil rfl hf__0 (R_Section_one _) hl5 .none rfl ?_
  intro v6 xs7 hch8
  refine JL.fieldAddr fo_26_0 rfl .none rfl ?_
  refine JL.oneG 0 rfl (fun ho9 => ?_)
  refine JL.storeOwn 1 (cs := [v6]) az_22 rfl ho9.2 rfl (one_cons ho9.1 one_nil) rfl rfl .none ?_
  refine JL.done hQ ?_
  refine JQ.go ?_
  refine JC.seq ?_
  refine JC.region (by rfl) ?_
  intro hQ
  refine JL.loadOwn 1 az_26 rfl rfl rfl .none rfl ?_
  refine JL.oneG 0 rfl (fun ho10 => ?_)
  refine JL.storeOwn 0 (cs := [v6, .int .i64 f_.Low, .int .i64 f_.High, .int .i64 f_.Ease.Num, .int .i64 f_.Ease.Den, .int .i64 f_.Rod, .int .i64 f_.Case]) az_26 rfl rfl rfl (one_cons ho10.1 (one_cons rfl (one_cons rfl (one_cons rfl (one_cons rfl (one_cons rfl (one_cons rfl one_nil))))))) rfl rfl .none ?_
  refine JL.done hQ ?_
  refine JQ.go ?_
  refine JC.ret ?_
  refine JQ.freezeG 0 (R := R_Section) rfl R_Section_mono hch8 rfl ?_
  intro H11 hs11 hg12
  obtain rfl := Option.some.inj hF
  exact JQ.outH rfl (.cell 0 az_26 rfl rfl rfl .nil) ⟨v6, rfl, hg12⟩

-- 40 ferrule/ferruleref01.IsSection
def F_ref01_IsSection (n : Nat) (f_ : Frame) (section_ : Int) : Option Bool :=
  (F_ref01_Within n section_ 0 (w64 ((f_.Sections.length : Int) - 1))).bind fun y2 => some y2
set_option maxRecDepth 100000 in
set_option maxHeartbeats 40000000 in
theorem c_ref01_IsSection (n : Nat) (H : Hp) (f_ : Frame) (f__v0 : Value) (hf__0 : SL H 7 R_Section f__v0 f_.Sections) (section_ : Int) (y : Bool) (hF : F_ref01_IsSection n f_ section_ = some y) : SC Try.prog 40 [.agg [f__v0, .int .i64 f_.Low, .int .i64 f_.High, .int .i64 f_.Ease.Num, .int .i64 f_.Ease.Den, .int .i64 f_.Rod, .int .i64 f_.Case].toArray, .int .i64 section_] (.bool y) H := by
  rw [F_ref01_IsSection] at hF
  refine SC.of (N := 11) Try.func40 rfl rfl rfl fun w => ?_
  refine JC.seq ?_
  refine JC.region (by rfl) ?_
  intro hQ
  refine JL.box (cs := [f__v0, .int .i64 f_.Low, .int .i64 f_.High, .int .i64 f_.Ease.Num, .int .i64 f_.Ease.Den, .int .i64 f_.Rod, .int .i64 f_.Case]) rfl .none rfl ?_
  intro b1
  refine JL.assign .none rfl ?_
  refine JL.done hQ ?_
  refine JQ.go ?_
  refine JC.seq ?_
  refine JC.region (by rfl) ?_
  intro hQ
  refine JL.move .none rfl ?_
  refine JL.fieldAddr fo_26_0 rfl .none rfl ?_
  refine JL.loadOwn 0 az_22 rfl rfl rfl .none rfl ?_
  refine JL.lenSL (R := R_Section) ul_22 hf__0 .none rfl ?_
  refine JL.bin rfl rfl rfl .none rfl ?_
  obtain ⟨y2, hy2, hF⟩ := bind_some hF
  refine JL.callS (c_ref01_Within n H section_ 0 (w64 ((f_.Sections.length : Int) - 1)) y2 hy2) rfl en_54 .none rfl ?_
  refine JL.assign .none rfl ?_
  refine JL.done hQ ?_
  refine JQ.go ?_
  refine JC.ret ?_
  obtain rfl := Option.some.inj hF
  exact JQ.outS rfl (.tmp .nil) rfl

-- 59 ferrule/ferruleref01.IsPosition
def F_ref01_IsPosition (n : Nat) (f_ : Frame) (r : Int) : Option Bool :=
  (F_ref01_Within n r f_.Low f_.High).bind fun y2 => some y2
set_option maxRecDepth 100000 in
set_option maxHeartbeats 40000000 in
theorem c_ref01_IsPosition (n : Nat) (H : Hp) (f_ : Frame) (f__v0 : Value) (hf__0 : SL H 7 R_Section f__v0 f_.Sections) (r : Int) (y : Bool) (hF : F_ref01_IsPosition n f_ r = some y) : SC Try.prog 59 [.agg [f__v0, .int .i64 f_.Low, .int .i64 f_.High, .int .i64 f_.Ease.Num, .int .i64 f_.Ease.Den, .int .i64 f_.Rod, .int .i64 f_.Case].toArray, .int .i64 r] (.bool y) H := by
  rw [F_ref01_IsPosition] at hF
  refine SC.of (N := 11) Try.func59 rfl rfl rfl fun w => ?_
  refine JC.seq ?_
  refine JC.region (by rfl) ?_
  intro hQ
  refine JL.box (cs := [f__v0, .int .i64 f_.Low, .int .i64 f_.High, .int .i64 f_.Ease.Num, .int .i64 f_.Ease.Den, .int .i64 f_.Rod, .int .i64 f_.Case]) rfl .none rfl ?_
  intro b1
  refine JL.assign .none rfl ?_
  refine JL.done hQ ?_
  refine JQ.go ?_
  refine JC.seq ?_
  refine JC.region (by rfl) ?_
  intro hQ
  refine JL.move .none rfl ?_
  refine JL.fieldAddr fo_26_1 rfl .none rfl ?_
  refine JL.loadOwn 0 az_3 rfl rfl rfl .none rfl ?_
  refine JL.fieldAddr fo_26_2 rfl .none rfl ?_
  refine JL.loadOwn 0 az_3 rfl rfl rfl .none rfl ?_
  obtain ⟨y2, hy2, hF⟩ := bind_some hF
  refine JL.callS (c_ref01_Within n H r f_.Low f_.High y2 hy2) rfl en_54 .none rfl ?_
  refine JL.assign .none rfl ?_
  refine JL.done hQ ?_
  refine JQ.go ?_
  refine JC.ret ?_
  obtain rfl := Option.some.inj hF
  exact JQ.outS rfl (.tmp .nil) rfl

-- 58 ferrule/ferruleref01.check
def F_ref01_check (n : Nat) (f_ : Frame) (is : Bool) : Option Int :=
  (F_ref01_Check n f_).bind fun y2 => if (y2 != 0) = true then (some y2) else (if (!is) = true then (some 1) else (some 0))
set_option maxRecDepth 100000 in
set_option maxHeartbeats 40000000 in
theorem c_ref01_check (n : Nat) (H : Hp) (f_ : Frame) (f__v0 : Value) (hf__0 : SL H 7 R_Section f__v0 f_.Sections) (is : Bool) (y : Int) (hF : F_ref01_check n f_ is = some y) : SC Try.prog 58 [.agg [f__v0, .int .i64 f_.Low, .int .i64 f_.High, .int .i64 f_.Ease.Num, .int .i64 f_.Ease.Den, .int .i64 f_.Rod, .int .i64 f_.Case].toArray, .bool is] (.int .i64 y) H := by
  rw [F_ref01_check] at hF
  refine SC.of (N := 13) Try.func58 rfl rfl rfl fun w => ?_
  refine JC.seq ?_
  refine JC.region (by rfl) ?_
  intro hQ
  refine JL.box (cs := [f__v0, .int .i64 f_.Low, .int .i64 f_.High, .int .i64 f_.Ease.Num, .int .i64 f_.Ease.Den, .int .i64 f_.Rod, .int .i64 f_.Case]) rfl .none rfl ?_
  intro b1
  refine JL.assign .none rfl ?_
  refine JL.done hQ ?_
  refine JQ.go ?_
  refine JC.seq ?_
  refine JC.seq ?_
  refine JC.region (by rfl) ?_
  intro hQ
  refine JL.loadOwn 0 az_26 rfl rfl rfl .none rfl ?_
  obtain ⟨y2, hy2, hF⟩ := bind_some hF
  refine JL.callS (c_ref01_Check n H f_ f__v0 hf__0 y2 hy2) rfl en_15 .none rfl ?_
  refine JL.assign .none rfl ?_
  refine JL.done hQ ?_
  refine JQ.go ?_
  refine JC.seq ?_
  refine JC.region (by rfl) ?_
  intro hQ
  refine JL.move .none rfl ?_
  refine JL.bin rfl rfl rfl .none rfl ?_
  refine JL.done hQ ?_
  refine JQ.go ?_
  rcases ite_some hF with ⟨hc3, hF⟩ | ⟨hc3, hF⟩
  · refine JC.cond_t (b := (y2 != 0)) rfl hc3 ?_
    refine JC.seq ?_
    refine JC.region (by rfl) ?_
    intro hQ
    refine JL.move .none rfl ?_
    refine JL.assign .none rfl ?_
    refine JL.done hQ ?_
    refine JQ.go ?_
    refine JC.ret ?_
    refine JQ.ret_then ?_
    obtain rfl := Option.some.inj hF
    exact JQ.outS rfl (.tmp .nil) rfl
  · refine JC.cond_f (b := (y2 != 0)) rfl hc3 ?_
    refine JC.skip ?_
    refine JQ.go ?_
    refine JC.seq ?_
    refine JC.seq ?_
    refine JC.region (by rfl) ?_
    intro hQ
    refine JL.move .none rfl ?_
    refine JL.not rfl .none rfl ?_
    refine JL.done hQ ?_
    refine JQ.go ?_
    rcases ite_some hF with ⟨hc4, hF⟩ | ⟨hc4, hF⟩
    · refine JC.cond_t (b := (!is)) rfl hc4 ?_
      refine JC.seq ?_
      refine JC.region (by rfl) ?_
      intro hQ
      refine JL.assign .none rfl ?_
      refine JL.done hQ ?_
      refine JQ.go ?_
      refine JC.ret ?_
      refine JQ.ret_then ?_
      obtain rfl := Option.some.inj hF
      exact JQ.outS rfl (.tmp .nil) rfl
    · refine JC.cond_f (b := (!is)) rfl hc4 ?_
      refine JC.skip ?_
      refine JQ.go ?_
      refine JC.seq ?_
      refine JC.region (by rfl) ?_
      intro hQ
      refine JL.assign .none rfl ?_
      refine JL.done hQ ?_
      refine JQ.go ?_
      refine JC.ret ?_
      obtain rfl := Option.some.inj hF
      exact JQ.outS rfl (.tmp .nil) rfl

-- 60 ferrule/ferruleref01.distance
def F_ref01_distance : Nat → Frame → Int → Int → Option Int
  | 0, _, _, _ => none
  | n + 1, f_, section_, r => (fun rec => if (section_ == 0) = true then (some r) else ((geti f_.Sections section_).bind fun y3 => (rec f_ (w64 (section_ - 1)) r).bind fun y11 => (nz y3.Gear.Den).bind fun _ => some (w64 (y3.Base + (w64 ((w64 (y11 * y3.Gear.Num)).tdiv y3.Gear.Den)))))) (F_ref01_distance n)
set_option maxRecDepth 100000 in
set_option maxHeartbeats 40000000 in
theorem c_ref01_distance (n : Nat) : ∀ (H : Hp) (f_ : Frame) (f__v0 : Value) (hf__0 : SL H 7 R_Section f__v0 f_.Sections) (section_ : Int) (r : Int) (y : Int) (hF : F_ref01_distance n f_ section_ r = some y), SC Try.prog 60 [.agg [f__v0, .int .i64 f_.Low, .int .i64 f_.High, .int .i64 f_.Ease.Num, .int .i64 f_.Ease.Den, .int .i64 f_.Rod, .int .i64 f_.Case].toArray, .int .i64 section_, .int .i64 r] (.int .i64 y) H := by
  induction n with
  | zero => intro H f_ f__v0 hf__0 section_ r y hF; simp [F_ref01_distance] at hF
  | succ n ih =>
  intro H f_ f__v0 hf__0 section_ r y hF
  rw [F_ref01_distance] at hF
  dsimp only at hF
  refine SC.of (N := 32) Try.func60 rfl rfl rfl fun w => ?_
  refine JC.seq ?_
  refine JC.region (by rfl) ?_
  intro hQ
  refine JL.box (cs := [f__v0, .int .i64 f_.Low, .int .i64 f_.High, .int .i64 f_.Ease.Num, .int .i64 f_.Ease.Den, .int .i64 f_.Rod, .int .i64 f_.Case]) rfl .none rfl ?_
  intro b1
  refine JL.assign .none rfl ?_
  refine JL.done hQ ?_
  refine JQ.go ?_
  refine JC.seq ?_
  refine JC.seq ?_
  refine JC.region (by rfl) ?_
  intro hQ
  refine JL.move .none rfl ?_
  refine JL.bin rfl rfl rfl .none rfl ?_
  refine JL.done hQ ?_
  refine JQ.go ?_
  rcases ite_some hF with ⟨hc2, hF⟩ | ⟨hc2, hF⟩
  · refine JC.cond_t (b := (section_ == 0)) rfl hc2 ?_
    refine JC.seq ?_
    refine JC.region (by rfl) ?_
    intro hQ
    refine JL.move .none rfl ?_
    refine JL.assign .none rfl ?_
    refine JL.done hQ ?_
    refine JQ.go ?_
    refine JC.ret ?_
    refine JQ.ret_then ?_
    obtain rfl := Option.some.inj hF
    exact JQ.outS rfl (.tmp .nil) rfl
  · refine JC.cond_f (b := (section_ == 0)) rfl hc2 ?_
    refine JC.skip ?_
    refine JQ.go ?_
    refine JC.seq ?_
    refine JC.region (by rfl) ?_
    intro hQ
    refine JL.fieldAddr fo_26_0 rfl .none rfl ?_
    refine JL.loadOwn 0 az_22 rfl rfl rfl .none rfl ?_
    refine JL.move .none rfl ?_
    obtain ⟨y3, hy3, hF⟩ := bind_some hF
    refine JL.indexSL (R := R_Section) sl_22 hf__0 rfl hy3 .none rfl ?_
    rintro b4 o5 cs6 hc7 - rfl
    refine JL.loadH 0 az_61 rfl hc7 rfl .none rfl ?_
    refine JL.alloc ze_61 .none rfl ?_
    intro b8
    refine JL.storeOwn 0 (cs := [.int .i64 y3.Arm.Low, .int .i64 y3.Arm.High, .int .i64 y3.Stretch.Low, .int .i64 y3.Stretch.High, .int .i64 y3.Base, .int .i64 y3.Gear.Num, .int .i64 y3.Gear.Den]) az_61 rfl rfl rfl (one_cons rfl (one_cons rfl (one_cons rfl (one_cons rfl (one_cons rfl (one_cons rfl (one_cons rfl one_nil))))))) rfl rfl .none ?_
    refine JL.done hQ ?_
    refine JQ.go ?_
    refine JC.seq ?_
    refine JC.draw (by rfl) mo_ (by kernel_rfl) ?_
    intro hQ
    refine JL.fieldAddr fo_61_2 rfl .none rfl ?_
    refine JL.loadOwn 0 az_3 rfl rfl rfl .none rfl ?_
    refine JL.loadOwn 1 az_26 rfl rfl rfl .none rfl ?_
    refine JL.move .none rfl ?_
    refine JL.bin rfl rfl rfl .none rfl ?_
    refine JL.move .none rfl ?_
    obtain ⟨y11, hy11, hF⟩ := bind_some hF
    refine JL.callS (ih H f_ f__v0 hf__0 (w64 (section_ - 1)) r y11 hy11) rfl en_60 .none rfl ?_
    refine JL.fieldAddr fo_61_3 rfl .none rfl ?_
    refine JL.fieldAddr fo_24_0 rfl .none rfl ?_
    refine JL.loadOwn 0 az_3 rfl rfl rfl .none rfl ?_
    refine JL.bin rfl rfl rfl .none rfl ?_
    refine JL.fieldAddr fo_61_3 rfl .none rfl ?_
    refine JL.fieldAddr fo_24_1 rfl .none rfl ?_
    refine JL.loadOwn 0 az_3 rfl rfl rfl .none rfl ?_
    obtain ⟨u12, hu12, hF⟩ := bind_some hF
    refine JL.div rfl rfl (nz_some hu12) rfl .none rfl ?_
    refine JL.bin rfl rfl rfl .none rfl ?_
    refine JL.assign .none rfl ?_
    refine JL.doneQ hQ ?_
    refine JQ.go ?_
    refine JC.fresh (fun f => f 6 = .int .i64 (w64 (y3.Base + (w64 ((w64 (y11 * y3.Gear.Num)).tdiv y3.Gear.Den))))) rfl ?_
    rintro f hf6
    refine (JC.norm (i := 6) hf6 ?_)
    refine JC.ret ?_
    obtain rfl := Option.some.inj hF
    exact JQ.outS rfl (.tmp .nil) rfl

-- 17 ferrule/ferruleref01.Distance
def F_ref01_Distance (n : Nat) (f_ : Frame) (section_ : Int) (r : Int) : Option (Int × Int) :=
  (F_ref01_IsSection n f_ section_).bind fun y9 => (if y9 = true then ((F_ref01_IsPosition n f_ r).bind fun y14 => some y14) else (some false) : Option Bool).bind fun p11 => (F_ref01_check n f_ p11).bind fun y15 => if (y15 != 0) = true then (some (0, y15)) else ((F_ref01_distance n f_ section_ r).bind fun y17 => some (y17, 0))
set_option maxRecDepth 100000 in
set_option maxHeartbeats 40000000 in
theorem c_ref01_Distance (n : Nat) (H : Hp) (f_ : Frame) (f__v0 : Value) (hf__0 : SL H 7 R_Section f__v0 f_.Sections) (section_ : Int) (r : Int) (y : Int × Int) (hF : F_ref01_Distance n f_ section_ r = some y) : SC Try.prog 17 [.agg [f__v0, .int .i64 f_.Low, .int .i64 f_.High, .int .i64 f_.Ease.Num, .int .i64 f_.Ease.Den, .int .i64 f_.Rod, .int .i64 f_.Case].toArray, .int .i64 section_, .int .i64 r] (.tuple [.int .i64 y.1, .int .i64 y.2].toArray) H := by
  rw [F_ref01_Distance] at hF
  refine SC.of (N := 26) Try.func17 rfl rfl rfl fun w => ?_
  refine JC.seq ?_
  refine JC.region (by rfl) ?_
  intro hQ
  refine JL.box (cs := [f__v0, .int .i64 f_.Low, .int .i64 f_.High, .int .i64 f_.Ease.Num, .int .i64 f_.Ease.Den, .int .i64 f_.Rod, .int .i64 f_.Case]) rfl .none rfl ?_
  intro b1
  refine JL.assign .none rfl ?_
  refine JL.assign .none rfl ?_
  refine JL.done hQ ?_
  refine JQ.go ?_
  refine JC.seq ?_
  refine JC.seq ?_
  refine JC.draw (by rfl) mo_ (by kernel_rfl) ?_
  intro hQ
  refine JL.loadOwn 0 az_26 rfl rfl rfl .none rfl ?_
  refine JL.loadOwn 0 az_26 rfl rfl rfl .none rfl ?_
  refine JL.move .none rfl ?_
  obtain ⟨y9, hy9, hF⟩ := bind_some hF
  refine JL.callS (c_ref01_IsSection n H f_ f__v0 hf__0 section_ y9 hy9) rfl en_40 .none rfl ?_
  refine JL.move .none rfl ?_
  obtain ⟨p11, hp11, hF⟩ := bind_some hF
  refine JL.cut 4 (fun f => f 1 = .int .i64 section_ ∧ f 2 = .int .i64 r ∧ f 3 = .pointer (some ⟨b1, 0, none⟩) ∧ f 9 = .agg [f__v0, .int .i64 f_.Low, .int .i64 f_.High, .int .i64 f_.Ease.Num, .int .i64 f_.Ease.Den, .int .i64 f_.Rod, .int .i64 f_.Case].toArray ∧ f 17 = .bool p11) ?_ ?_
  · intro hJ12
    rcases ite_some hp11 with ⟨hc13, hF⟩ | ⟨hc13, hF⟩
    · skip
      refine JL.loadOwn 0 az_26 rfl rfl rfl (.some rfl rfl rfl hc13) rfl ?_
      refine JL.move (.some rfl rfl rfl hc13) rfl ?_
      obtain ⟨y14, hy14, hF⟩ := bind_some hF
      refine JL.callS (c_ref01_IsPosition n H f_ f__v0 hf__0 r y14 hy14) rfl en_59 (.some rfl rfl rfl hc13) rfl ?_
      refine JL.pick_t (b := y9) rfl hc13 .none rfl ?_
      obtain rfl := Option.some.inj hF
      exact hJ12 _ ⟨rfl, rfl, rfl, rfl, rfl⟩
    · skip
      refine JL.skip (.bool rfl rfl rfl hc13) rfl ?_
      refine JL.skip (.bool rfl rfl rfl hc13) rfl ?_
      refine JL.skip (.bool rfl rfl rfl hc13) rfl ?_
      refine JL.pick_f (b := y9) rfl hc13 .none rfl ?_
      obtain rfl := Option.some.inj hF
      exact hJ12 _ ⟨rfl, rfl, rfl, rfl, rfl⟩
  · rintro f ⟨hf1, hf2, hf3, hf9, hf17⟩
    refine (JL.norm (i := 1) hf1 (JL.norm (i := 2) hf2 (JL.norm (i := 3) hf3 (JL.norm (i := 9) hf9 (JL.norm (i := 17) hf17 ?_)))))
    obtain ⟨y15, hy15, hF⟩ := bind_some hF
    refine JL.callS (c_ref01_check n H f_ f__v0 hf__0 p11 y15 hy15) rfl en_58 .none rfl ?_
    refine JL.assign .none rfl ?_
    refine JL.doneQ hQ ?_
    refine JQ.go ?_
    refine JC.seq ?_
    refine JC.region (by rfl) ?_
    intro hQ
    refine JL.move .none rfl ?_
    refine JL.bin rfl rfl rfl .none rfl ?_
    refine JL.done hQ ?_
    refine JQ.go ?_
    rcases ite_some hF with ⟨hc16, hF⟩ | ⟨hc16, hF⟩
    · refine JC.cond_t (b := (y15 != 0)) rfl hc16 ?_
      refine JC.seq ?_
      refine JC.region (by rfl) ?_
      intro hQ
      refine JL.move .none rfl ?_
      refine JL.assign .none rfl ?_
      refine JL.assign .none rfl ?_
      refine JL.done hQ ?_
      refine JQ.go ?_
      refine JC.ret ?_
      refine JQ.ret_then ?_
      obtain rfl := Option.some.inj hF
      exact JQ.outS rfl (.tmp (.tmp .nil)) rfl
    · refine JC.cond_f (b := (y15 != 0)) rfl hc16 ?_
      refine JC.skip ?_
      refine JQ.go ?_
      refine JC.seq ?_
      refine JC.region (by rfl) ?_
      intro hQ
      refine JL.loadOwn 0 az_26 rfl rfl rfl .none rfl ?_
      refine JL.move .none rfl ?_
      refine JL.move .none rfl ?_
      obtain ⟨y17, hy17, hF⟩ := bind_some hF
      refine JL.callS (c_ref01_distance n H f_ f__v0 hf__0 section_ r y17 hy17) rfl en_60 .none rfl ?_
      refine JL.assign .none rfl ?_
      refine JL.assign .none rfl ?_
      refine JL.done hQ ?_
      refine JQ.go ?_
      refine JC.fresh (fun f => f 6 = .int .i64 y17 ∧ f 7 = .int .i64 0) ⟨rfl, rfl⟩ ?_
      rintro f ⟨hf6, hf7⟩
      refine (JC.norm (i := 6) hf6 (JC.norm (i := 7) hf7 ?_))
      refine JC.ret ?_
      obtain rfl := Option.some.inj hF
      exact JQ.outS rfl (.tmp (.tmp .nil)) rfl

end Go.Proofs.Ytmgnhaibbeinbaa
