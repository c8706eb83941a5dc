/-
  Printed by a program: functions of the translation as plain functions, and their contracts.
-/
import Derived.Test.YtmgnhaibbeinbaaGenK12
namespace Go.Proofs.Ytmgnhaibbeinbaa
open Go Go.RowKit Go.Dec
set_option linter.unusedVariables false
-- 34 ferrule/ferruleref01.IsPair
def F_ref01_IsPair (n : Nat) (f_ : Frame) (section_ : Int) (p : ref01_Pair) : Option Bool :=
  (geti f_.Sections section_).bind fun y3 => (F_ref01_Within n p.Arm y3.Arm.Low y3.Arm.High).bind fun y9 => (if y9 = true then ((F_ref01_Within n p.Stretch y3.Stretch.Low y3.Stretch.High).bind fun y14 => some y14) else (some false) : Option Bool).bind fun p11 => some p11
set_option maxRecDepth 100000 in
set_option maxHeartbeats 40000000 in
theorem c_ref01_IsPair (n : Nat) (H : Hp) (f_ : Frame) (f__v0 : Value) (hf__0 : SL H 7 R_Section f__v0 f_.Sections) (section_ : Int) (p : ref01_Pair) (y : Bool) (hF : F_ref01_IsPair n f_ section_ p = some y) : SC Try.prog 34 [.agg [f__v0, .int .i64 f_.Low, .int .i64 f_.High, .int .i64 f_.Ease.Num, .int .i64 f_.Ease.Den, .int .i64 f_.Rod, .int .i64 f_.Case].toArray, .int .i64 section_, .agg [.int .i64 p.Arm, .int .i64 p.Stretch].toArray] (.bool y) H := by
  rw [F_ref01_IsPair] at hF
  refine SC.of (N := 33) Try.func34 rfl rfl rfl fun w => ?_
  refine JC.seq ?_
  refine JC.region (by rfl) ?_
  intro hQ
  refine JL.box (cs := [f__v0, .int .i64 f_.Low, .int .i64 f_.High, .int .i64 f_.Ease.Num, .int .i64 f_.Ease.Den, .int .i64 f_.Rod, .int .i64 f_.Case]) rfl .none rfl ?_
  intro b1
  refine JL.box (cs := [.int .i64 p.Arm, .int .i64 p.Stretch]) rfl .none rfl ?_
  intro b2
  refine JL.assign .none rfl ?_
  refine JL.done hQ ?_
  refine JQ.go ?_
  refine JC.seq ?_
  refine JC.region (by rfl) ?_
  intro hQ
  refine JL.fieldAddr fo_26_0 rfl .none rfl ?_
  refine JL.loadOwn 1 az_22 rfl rfl rfl .none rfl ?_
  refine JL.move .none rfl ?_
  obtain ⟨y3, hy3, hF⟩ := bind_some hF
  refine JL.indexSL (R := R_Section) sl_22 hf__0 rfl hy3 .none rfl ?_
  rintro b4 o5 cs6 hc7 - rfl
  refine JL.loadH 0 az_61 rfl hc7 rfl .none rfl ?_
  refine JL.alloc ze_61 .none rfl ?_
  intro b8
  refine JL.storeOwn 0 (cs := [.int .i64 y3.Arm.Low, .int .i64 y3.Arm.High, .int .i64 y3.Stretch.Low, .int .i64 y3.Stretch.High, .int .i64 y3.Base, .int .i64 y3.Gear.Num, .int .i64 y3.Gear.Den]) az_61 rfl rfl rfl (one_cons rfl (one_cons rfl (one_cons rfl (one_cons rfl (one_cons rfl (one_cons rfl (one_cons rfl one_nil))))))) rfl rfl .none ?_
  refine JL.done hQ ?_
  refine JQ.go ?_
  refine JC.seq ?_
  refine JC.region (by rfl) ?_
  intro hQ
  refine JL.fieldAddr fo_45_0 rfl .none rfl ?_
  refine JL.loadOwn 1 az_3 rfl rfl rfl .none rfl ?_
  refine JL.fieldAddr fo_61_0 rfl .none rfl ?_
  refine JL.fieldAddr fo_59_0 rfl .none rfl ?_
  refine JL.loadOwn 0 az_3 rfl rfl rfl .none rfl ?_
  refine JL.fieldAddr fo_61_0 rfl .none rfl ?_
  refine JL.fieldAddr fo_59_1 rfl .none rfl ?_
  refine JL.loadOwn 0 az_3 rfl rfl rfl .none rfl ?_
  obtain ⟨y9, hy9, hF⟩ := bind_some hF
  refine JL.callS (c_ref01_Within n H p.Arm y3.Arm.Low y3.Arm.High y9 hy9) rfl en_54 .none rfl ?_
  refine JL.move .none rfl ?_
  obtain ⟨p11, hp11, hF⟩ := bind_some hF
  refine JL.cut 10 (fun f => f 32 = .bool p11) ?_ ?_
  · intro hJ12
    rcases ite_some hp11 with ⟨hc13, hF⟩ | ⟨hc13, hF⟩
    · skip
      refine JL.fieldAddr fo_45_1 rfl (.some rfl rfl rfl hc13) rfl ?_
      refine JL.loadOwn 1 az_3 rfl rfl rfl (.some rfl rfl rfl hc13) rfl ?_
      refine JL.fieldAddr fo_61_1 rfl (.some rfl rfl rfl hc13) rfl ?_
      refine JL.fieldAddr fo_59_0 rfl (.some rfl rfl rfl hc13) rfl ?_
      refine JL.loadOwn 0 az_3 rfl rfl rfl (.some rfl rfl rfl hc13) rfl ?_
      refine JL.fieldAddr fo_61_1 rfl (.some rfl rfl rfl hc13) rfl ?_
      refine JL.fieldAddr fo_59_1 rfl (.some rfl rfl rfl hc13) rfl ?_
      refine JL.loadOwn 0 az_3 rfl rfl rfl (.some rfl rfl rfl hc13) rfl ?_
      obtain ⟨y14, hy14, hF⟩ := bind_some hF
      refine JL.callS (c_ref01_Within n H p.Stretch y3.Stretch.Low y3.Stretch.High y14 hy14) rfl en_54 (.some rfl rfl rfl hc13) rfl ?_
      refine JL.pick_t (b := y9) rfl hc13 .none rfl ?_
      obtain rfl := Option.some.inj hF
      exact hJ12 _ (rfl)
    · skip
      refine JL.skip (.bool rfl rfl rfl hc13) rfl ?_
      refine JL.skip (.bool rfl rfl rfl hc13) rfl ?_
      refine JL.skip (.bool rfl rfl rfl hc13) rfl ?_
      refine JL.skip (.bool rfl rfl rfl hc13) rfl ?_
      refine JL.skip (.bool rfl rfl rfl hc13) rfl ?_
      refine JL.skip (.bool rfl rfl rfl hc13) rfl ?_
      refine JL.skip (.bool rfl rfl rfl hc13) rfl ?_
      refine JL.skip (.bool rfl rfl rfl hc13) rfl ?_
      refine JL.skip (.bool rfl rfl rfl hc13) rfl ?_
      refine JL.pick_f (b := y9) rfl hc13 .none rfl ?_
      obtain rfl := Option.some.inj hF
      exact hJ12 _ (rfl)
  · rintro f hf32
    refine (JL.norm (i := 32) hf32 ?_)
    refine JL.assign .none rfl ?_
    refine JL.done hQ ?_
    refine JQ.go ?_
    refine JC.ret ?_
    obtain rfl := Option.some.inj hF
    exact JQ.outS rfl (.tmp .nil) rfl

-- 35 ferrule/ferruleref01.Free
def F_ref01_Free_s1 (n : Nat) (f_ : Frame) (section_ : Int) (p : ref01_Pair) : Int → Option (Int ⊕ (Bool ⊕ Unit))
  | r_32 => if decide (r_32 ≤ f_.High) = true then ((F_ref01_BindsAt n f_ section_ r_32 p).bind fun y37 => if y37 = true then (some (Sum.inr (Sum.inl false))) else (some (Sum.inl (w64 (r_32 + 1))))) else (some (Sum.inr (Sum.inr ())))
def F_ref01_Free (n : Nat) (f_ : Frame) (section_ : Int) (p : ref01_Pair) : Option Bool :=
  (loopO n (F_ref01_Free_s1 n f_ section_ p) f_.Low).bind fun r21 => match r21 with | .inl o => some o | .inr _ => some true
set_option maxRecDepth 100000 in
set_option maxHeartbeats 40000000 in
theorem c_ref01_Free (n : Nat) (H : Hp) (f_ : Frame) (f__v0 : Value) (hf__0 : SL H 7 R_Section f__v0 f_.Sections) (section_ : Int) (p : ref01_Pair) (y : Bool) (hF : F_ref01_Free n f_ section_ p = some y) : SC Try.prog 35 [.agg [f__v0, .int .i64 f_.Low, .int .i64 f_.High, .int .i64 f_.Ease.Num, .int .i64 f_.Ease.Den, .int .i64 f_.Rod, .int .i64 f_.Case].toArray, .int .i64 section_, .agg [.int .i64 p.Arm, .int .i64 p.Stretch].toArray] (.bool y) H := by
  rw [F_ref01_Free] at hF
  refine SC.of (N := 21) Try.func35 rfl rfl rfl fun w => ?_
  refine JC.seq ?_
  refine JC.region (by rfl) ?_
  intro hQ
  refine JL.box (cs := [f__v0, .int .i64 f_.Low, .int .i64 f_.High, .int .i64 f_.Ease.Num, .int .i64 f_.Ease.Den, .int .i64 f_.Rod, .int .i64 f_.Case]) rfl .none rfl ?_
  intro b1
  refine JL.box (cs := [.int .i64 p.Arm, .int .i64 p.Stretch]) rfl .none rfl ?_
  intro b2
  refine JL.assign .none rfl ?_
  refine JL.done hQ ?_
  refine JQ.go ?_
  refine JC.seq ?_
  refine JC.seq ?_
  refine JC.region (by rfl) ?_
  intro hQ
  refine JL.fieldAddr fo_26_1 rfl .none rfl ?_
  refine JL.loadOwn 1 az_3 rfl rfl rfl .none rfl ?_
  refine JL.assign .none rfl ?_
  refine JL.done hQ ?_
  refine JQ.go ?_
  obtain ⟨r21, hlr21, hKr21⟩ := bind_some hF
  refine JC.join (fun (_ : Unit) H20 f bs gs => bs = [] ∧ gs = [] ∧ HSub H H20 ∧ Sum.inr () = r21) ?_ ?_
  · skip
    refine JC.block ?_
    refine JC.loop hlr21 (fun (r_32 : Int) H33 f bs gs => f 1 = .int .i64 section_ ∧ f 3 = .pointer (some ⟨b1, 0, none⟩) ∧ f 5 = .pointer (some ⟨b2, 0, none⟩) ∧ f 7 = .int .i64 r_32 ∧ bs = [(b2, .cells [.int .i64 p.Arm, .int .i64 p.Stretch].toArray 45), (b1, .cells [f__v0, .int .i64 f_.Low, .int .i64 f_.High, .int .i64 f_.Ease.Num, .int .i64 f_.Ease.Den, .int .i64 f_.Rod, .int .i64 f_.Case].toArray 26)] ∧ gs = [] ∧ HSub H H33) ⟨rfl, rfl, rfl, rfl, rfl, rfl, (HSub.refl _)⟩ ?_
    rintro r_32 x35 H33 f bs gs ⟨hf1, hf3, hf5, hf7, rfl, rfl, hs33⟩ hF hr34
    rw [F_ref01_Free_s1] at hF
    refine (JC.norm (i := 1) hf1 (JC.norm (i := 3) hf3 (JC.norm (i := 5) hf5 (JC.norm (i := 7) hf7 ?_))))
    refine JC.seq ?_
    refine JC.seq ?_
    refine JC.region (by rfl) ?_
    intro hQ
    refine JL.move .none rfl ?_
    refine JL.fieldAddr fo_26_2 rfl .none rfl ?_
    refine JL.loadOwn 1 az_3 rfl rfl rfl .none rfl ?_
    refine JL.bin rfl rfl rfl .none rfl ?_
    refine JL.done hQ ?_
    refine JQ.go ?_
    rcases ite_some hF with ⟨hc36, hF⟩ | ⟨hc36, hF⟩
    · refine JC.cond_t (b := decide (r_32 ≤ f_.High)) rfl hc36 ?_
      refine JC.skip ?_
      refine JQ.go ?_
      refine JC.seq ?_
      refine JC.block ?_
      refine JC.seq ?_
      refine JC.region (by rfl) ?_
      intro hQ
      refine JL.loadOwn 1 az_26 rfl rfl rfl .none rfl ?_
      refine JL.move .none rfl ?_
      refine JL.move .none rfl ?_
      refine JL.loadOwn 0 az_45 rfl rfl rfl .none rfl ?_
      obtain ⟨y37, hy37, hF⟩ := bind_some hF
      refine JL.callS (c_ref01_BindsAt n H33 f_ f__v0 (SL.mono R_Section_mono hs33 hf__0) section_ r_32 p y37 hy37) rfl en_27 .none rfl ?_
      refine JL.done hQ ?_
      refine JQ.go ?_
      rcases ite_some hF with ⟨hc38, hF⟩ | ⟨hc38, hF⟩
      · refine JC.cond_t (b := y37) rfl hc38 ?_
        refine JC.seq ?_
        refine JC.region (by rfl) ?_
        intro hQ
        refine JL.assign .none rfl ?_
        refine JL.done hQ ?_
        refine JQ.go ?_
        refine JC.fresh (fun f => f 6 = .bool false) rfl ?_
        rintro f hf6
        refine (JC.norm (i := 6) hf6 ?_)
        refine JC.ret ?_
        refine JQ.ret_block ?_
        refine JQ.ret_then ?_
        refine JQ.ret_then ?_
        refine JQ.ret_block ?_
        refine JQ.ret_join ?_
        refine JQ.ret_then ?_
        obtain rfl := Option.some.inj hF
        have ehr34 := hr34 _ rfl
        subst ehr34
        have hF := hKr21
        try dsimp only at hF
        obtain rfl := Option.some.inj hF
        exact JQ.outS rfl (.tmp .nil) rfl
      · refine JC.cond_f (b := y37) rfl hc38 ?_
        refine JC.skip ?_
        refine JQ.normal_block ?_
        refine JQ.go ?_
        refine JC.region (by rfl) ?_
        intro hQ
        refine JL.move .none rfl ?_
        refine JL.bin rfl rfl rfl .none rfl ?_
        refine JL.assign .none rfl ?_
        refine JL.done hQ ?_
        obtain rfl := Option.some.inj hF
        exact JQ.next rfl ⟨rfl, rfl, rfl, rfl, rfl, rfl, hs33⟩
    · refine JC.cond_f (b := decide (r_32 ≤ f_.High)) rfl hc36 ?_
      refine JC.exit ?_
      refine JQ.exit_then ?_
      refine JQ.exit_then ?_
      refine JQ.exit_block ?_
      obtain rfl := Option.some.inj hF
      have ehr34 := hr34 _ rfl
      subst ehr34
      refine JQ.mask [false, false] [] ?_
      exact JQ.join () ⟨rfl, rfl, hs33, rfl⟩
  · rintro _ H20 f bs gs ⟨rfl, rfl, hs20, rfl⟩
    have hF := hKr21
    try dsimp only at hF
    refine JQ.go ?_
    refine JC.seq ?_
    refine JC.region (by rfl) ?_
    intro hQ
    refine JL.assign .none rfl ?_
    refine JL.done hQ ?_
    refine JQ.go ?_
    refine JC.ret ?_
    obtain rfl := Option.some.inj hF
    exact JQ.outS rfl (.tmp .nil) rfl

-- 36 ferrule/frames.Closes
def F_frames_Closes_s1 (n : Nat) (f_ : Frame) : Int × Int × Int → Option ((Int × Int × Int) ⊕ (Int × Int))
  | (x_66, z_67, z_68) => if decide (x_66 < (f_.Sections.length : Int)) = true then ((geti f_.Sections x_66).bind fun y73 => some (Sum.inl ((w64 (x_66 + 1)), (max z_67 y73.Arm.Low), (max z_68 y73.Arm.High)))) else (some (Sum.inr (z_67, z_68)))
def F_frames_Closes (n : Nat) (f_ : Frame) : Option (Int × Int) :=
  (F_frames_Check n f_).bind fun y2 => if (y2 != 0) = true then (some (0, y2)) else ((loopO n (F_frames_Closes_s1 n f_) (0, 0, 0)).bind fun r43 => match r43 with | (z_40, z_41) => if decide ((w64 (f_.Rod + z_41)) ≤ f_.Case) = true then (some (1, 0)) else (if decide (f_.Case < (w64 (f_.Rod + z_40))) = true then (some (2, 0)) else (some (3, 0))))
set_option maxRecDepth 100000 in
set_option maxHeartbeats 40000000 in
theorem c_frames_Closes (n : Nat) (H : Hp) (f_ : Frame) (f__v0 : Value) (hf__0 : SL H 7 R_Section f__v0 f_.Sections) (y : Int × Int) (hF : F_frames_Closes n f_ = some y) : SC Try.prog 36 [.agg [f__v0, .int .i64 f_.Low, .int .i64 f_.High, .int .i64 f_.Ease.Num, .int .i64 f_.Ease.Den, .int .i64 f_.Rod, .int .i64 f_.Case].toArray] (.tuple [.int .i64 y.1, .int .i64 y.2].toArray) H := by
  rw [F_frames_Closes] at hF
  refine SC.of (N := 52) Try.func36 rfl rfl rfl fun w => ?_
  refine JC.seq ?_
  refine JC.region (by rfl) ?_
  intro hQ
  refine JL.box (cs := [f__v0, .int .i64 f_.Low, .int .i64 f_.High, .int .i64 f_.Ease.Num, .int .i64 f_.Ease.Den, .int .i64 f_.Rod, .int .i64 f_.Case]) rfl .none rfl ?_
  intro b1
  refine JL.assign .none rfl ?_
  refine JL.assign .none rfl ?_
  refine JL.done hQ ?_
  refine JQ.go ?_
  refine JC.seq ?_
  refine JC.seq ?_
  refine JC.region (by rfl) ?_
  intro hQ
  refine JL.loadOwn 0 az_26 rfl rfl rfl .none rfl ?_
  obtain ⟨y2, hy2, hF⟩ := bind_some hF
  refine JL.callS (c_frames_Check n H f_ f__v0 hf__0 y2 hy2) rfl en_14 .none rfl ?_
  refine JL.assign .none rfl ?_
  refine JL.done hQ ?_
  refine JQ.go ?_
  refine JC.seq ?_
  refine JC.region (by rfl) ?_
  intro hQ
  refine JL.move .none rfl ?_
  refine JL.bin rfl rfl rfl .none rfl ?_
  refine JL.done hQ ?_
  refine JQ.go ?_
  rcases ite_some hF with ⟨hc3, hF⟩ | ⟨hc3, hF⟩
  · refine JC.cond_t (b := (y2 != 0)) rfl hc3 ?_
    refine JC.seq ?_
    refine JC.region (by rfl) ?_
    intro hQ
    refine JL.move .none rfl ?_
    refine JL.assign .none rfl ?_
    refine JL.assign .none rfl ?_
    refine JL.done hQ ?_
    refine JQ.go ?_
    refine JC.ret ?_
    refine JQ.ret_then ?_
    obtain rfl := Option.some.inj hF
    exact JQ.outS rfl (.tmp (.tmp .nil)) rfl
  · refine JC.cond_f (b := (y2 != 0)) rfl hc3 ?_
    refine JC.skip ?_
    refine JQ.go ?_
    refine JC.seq ?_
    refine JC.region (by rfl) ?_
    intro hQ
    refine JL.alloc ze_59 .none rfl ?_
    intro b4
    refine JL.done hQ ?_
    refine JQ.go ?_
    refine JC.seq ?_
    refine JC.seq ?_
    refine JC.region (by rfl) ?_
    intro hQ
    refine JL.fieldAddr fo_26_0 rfl .none rfl ?_
    refine JL.loadOwn 1 az_22 rfl rfl rfl .none rfl ?_
    refine JL.lenSL (R := R_Section) ul_22 hf__0 .none rfl ?_
    refine JL.move .none rfl ?_
    refine JL.done hQ ?_
    refine JQ.go ?_
    obtain ⟨r43, hlr43, hKr43⟩ := bind_some hF
    refine JC.join (fun (x : Int × Int) H42 f bs gs => match x with | (z_40, z_41) => f 1 = .pointer (some ⟨b1, 0, none⟩) ∧ f 5 = .pointer (some ⟨b4, 0, none⟩) ∧ bs = [(b4, .cells [.int .i64 z_40, .int .i64 z_41].toArray 59), (b1, .cells [f__v0, .int .i64 f_.Low, .int .i64 f_.High, .int .i64 f_.Ease.Num, .int .i64 f_.Ease.Den, .int .i64 f_.Rod, .int .i64 f_.Case].toArray 26)] ∧ gs = [] ∧ HSub H H42 ∧ (z_40, z_41) = r43) ?_ ?_
    · skip
      refine JC.block ?_
      refine JC.loop hlr43 (fun (x : Int × Int × Int) H69 f bs gs => match x with | (x_66, z_67, z_68) => f 1 = .pointer (some ⟨b1, 0, none⟩) ∧ f 5 = .pointer (some ⟨b4, 0, none⟩) ∧ f 14 = f__v0 ∧ f 15 = .int .i64 (f_.Sections.length : Int) ∧ f 16 = .int .i64 x_66 ∧ bs = [(b4, .cells [.int .i64 z_67, .int .i64 z_68].toArray 59), (b1, .cells [f__v0, .int .i64 f_.Low, .int .i64 f_.High, .int .i64 f_.Ease.Num, .int .i64 f_.Ease.Den, .int .i64 f_.Rod, .int .i64 f_.Case].toArray 26)] ∧ gs = [] ∧ HSub H H69) ⟨rfl, rfl, rfl, rfl, rfl, rfl, rfl, (HSub.refl _)⟩ ?_
      rintro ⟨x_66, z_67, z_68⟩ x71 H69 f bs gs ⟨hf1, hf5, hf14, hf15, hf16, rfl, rfl, hs69⟩ hF hr70
      rw [F_frames_Closes_s1] at hF
      refine (JC.norm (i := 1) hf1 (JC.norm (i := 5) hf5 (JC.norm (i := 14) hf14 (JC.norm (i := 15) hf15 (JC.norm (i := 16) hf16 ?_)))))
      refine JC.seq ?_
      refine JC.region (by rfl) ?_
      intro hQ
      refine JL.bin rfl rfl rfl .none rfl ?_
      refine JL.done hQ ?_
      refine JQ.go ?_
      refine JC.seq ?_
      rcases ite_some hF with ⟨hc72, hF⟩ | ⟨hc72, hF⟩
      · refine JC.cond_t (b := decide (x_66 < (f_.Sections.length : Int))) rfl hc72 ?_
        refine JC.skip ?_
        refine JQ.go ?_
        refine JC.seq ?_
        refine JC.block ?_
        refine JC.seq ?_
        refine JC.region (by rfl) ?_
        intro hQ
        obtain ⟨y73, hy73, hF⟩ := bind_some hF
        refine JL.indexSL (R := R_Section) sl_22 (SL.mono R_Section_mono hs69 hf__0) rfl hy73 .none rfl ?_
        rintro b74 o75 cs76 hc77 - rfl
        refine JL.loadH 0 az_61 rfl hc77 rfl .none rfl ?_
        refine JL.alloc ze_61 .none rfl ?_
        intro b78
        refine JL.storeOwn 0 (cs := [.int .i64 y73.Arm.Low, .int .i64 y73.Arm.High, .int .i64 y73.Stretch.Low, .int .i64 y73.Stretch.High, .int .i64 y73.Base, .int .i64 y73.Gear.Num, .int .i64 y73.Gear.Den]) az_61 rfl rfl rfl (one_cons rfl (one_cons rfl (one_cons rfl (one_cons rfl (one_cons rfl (one_cons rfl (one_cons rfl one_nil))))))) rfl rfl .none ?_
        refine JL.done hQ ?_
        refine JQ.go ?_
        refine JC.region (by rfl) ?_
        intro hQ
        refine JL.fieldAddr fo_59_0 rfl .none rfl ?_
        refine JL.loadOwn 1 az_3 rfl rfl rfl .none rfl ?_
        refine JL.fieldAddr fo_61_0 rfl .none rfl ?_
        refine JL.fieldAddr fo_59_0 rfl .none rfl ?_
        refine JL.loadOwn 0 az_3 rfl rfl rfl .none rfl ?_
        refine JL.max rfl rfl .none rfl ?_
        refine JL.fieldAddr fo_59_1 rfl .none rfl ?_
        refine JL.loadOwn 1 az_3 rfl rfl rfl .none rfl ?_
        refine JL.fieldAddr fo_61_0 rfl .none rfl ?_
        refine JL.fieldAddr fo_59_1 rfl .none rfl ?_
        refine JL.loadOwn 0 az_3 rfl rfl rfl .none rfl ?_
        refine JL.max rfl rfl .none rfl ?_
        refine JL.build (l := [.int .i64 (max z_67 y73.Arm.Low), .int .i64 (max z_68 y73.Arm.High)]) (by kernel_rfl) .none rfl ?_
        refine JL.storeOwn 1 (cs := [.int .i64 (max z_67 y73.Arm.Low), .int .i64 (max z_68 y73.Arm.High)]) az_59 rfl rfl rfl (one_cons rfl (one_cons rfl one_nil)) rfl rfl .none ?_
        refine JL.done hQ ?_
        refine JQ.normal_block ?_
        refine JQ.go ?_
        refine JC.fresh (fun f => f 1 = .pointer (some ⟨b1, 0, none⟩) ∧ f 5 = .pointer (some ⟨b4, 0, none⟩) ∧ f 14 = f__v0 ∧ f 15 = .int .i64 (f_.Sections.length : Int) ∧ f 16 = .int .i64 x_66) ⟨rfl, rfl, rfl, rfl, rfl⟩ ?_
        rintro f ⟨hf1, hf5, hf14, hf15, hf16⟩
        refine (JC.norm (i := 1) hf1 (JC.norm (i := 5) hf5 (JC.norm (i := 14) hf14 (JC.norm (i := 15) hf15 (JC.norm (i := 16) hf16 ?_)))))
        refine JC.region (by rfl) ?_
        intro hQ
        refine JL.bin rfl rfl rfl .none rfl ?_
        refine JL.move .none rfl ?_
        refine JL.done hQ ?_
        obtain rfl := Option.some.inj hF
        refine JQ.mask [false, true, true] [] ?_
        exact JQ.next rfl ⟨rfl, rfl, rfl, rfl, rfl, rfl, rfl, hs69⟩
      · refine JC.cond_f (b := decide (x_66 < (f_.Sections.length : Int))) rfl hc72 ?_
        refine JC.exit ?_
        refine JQ.exit_then ?_
        refine JQ.exit_then ?_
        refine JQ.exit_block ?_
        obtain rfl := Option.some.inj hF
        have ehr70 := hr70 _ rfl
        subst ehr70
        exact JQ.join (z_67, z_68) ⟨rfl, rfl, rfl, rfl, hs69, rfl⟩
    · rintro ⟨z_40, z_41⟩ H42 f bs gs ⟨hf1, hf5, rfl, rfl, hs42, rfl⟩
      have hF := hKr43
      try dsimp only at hF
      refine (JQ.norm (i := 1) hf1 (JQ.norm (i := 5) hf5 ?_))
      refine JQ.go ?_
      refine JC.seq ?_
      refine JC.block ?_
      refine JC.seq ?_
      refine JC.region (by rfl) ?_
      intro hQ
      refine JL.fieldAddr fo_26_4 rfl .none rfl ?_
      refine JL.loadOwn 1 az_3 rfl rfl rfl .none rfl ?_
      refine JL.fieldAddr fo_59_1 rfl .none rfl ?_
      refine JL.loadOwn 0 az_3 rfl rfl rfl .none rfl ?_
      refine JL.bin rfl rfl rfl .none rfl ?_
      refine JL.fieldAddr fo_26_5 rfl .none rfl ?_
      refine JL.loadOwn 1 az_3 rfl rfl rfl .none rfl ?_
      refine JL.bin rfl rfl rfl .none rfl ?_
      refine JL.assign .none rfl ?_
      refine JL.done hQ ?_
      refine JQ.go ?_
      rcases ite_some hF with ⟨hc79, hF⟩ | ⟨hc79, hF⟩
      · refine JC.cond_t (b := decide ((w64 (f_.Rod + z_41)) ≤ f_.Case)) rfl hc79 ?_
        refine JC.seq ?_
        refine JC.region (by rfl) ?_
        intro hQ
        refine JL.assign .none rfl ?_
        refine JL.assign .none rfl ?_
        refine JL.done hQ ?_
        refine JQ.go ?_
        refine JC.ret ?_
        refine JQ.ret_block ?_
        refine JQ.ret_then ?_
        obtain rfl := Option.some.inj hF
        exact JQ.outS rfl (.tmp (.tmp .nil)) rfl
      · refine JC.cond_f (b := decide ((w64 (f_.Rod + z_41)) ≤ f_.Case)) rfl hc79 ?_
        refine JC.seq ?_
        refine JC.region (by rfl) ?_
        intro hQ
        refine JL.fieldAddr fo_26_4 rfl .none rfl ?_
        refine JL.loadOwn 1 az_3 rfl rfl rfl .none rfl ?_
        refine JL.fieldAddr fo_59_0 rfl .none rfl ?_
        refine JL.loadOwn 0 az_3 rfl rfl rfl .none rfl ?_
        refine JL.bin rfl rfl rfl .none rfl ?_
        refine JL.fieldAddr fo_26_5 rfl .none rfl ?_
        refine JL.loadOwn 1 az_3 rfl rfl rfl .none rfl ?_
        refine JL.bin rfl rfl rfl .none rfl ?_
        refine JL.assign .none rfl ?_
        refine JL.done hQ ?_
        refine JQ.go ?_
        refine JC.fresh (fun f => f 43 = .bool (decide (f_.Case < (w64 (f_.Rod + z_40))))) rfl ?_
        rintro f hf43
        refine (JC.norm (i := 43) hf43 ?_)
        rcases ite_some hF with ⟨hc80, hF⟩ | ⟨hc80, hF⟩
        · refine JC.cond_t (b := decide (f_.Case < (w64 (f_.Rod + z_40)))) rfl hc80 ?_
          refine JC.seq ?_
          refine JC.region (by rfl) ?_
          intro hQ
          refine JL.assign .none rfl ?_
          refine JL.assign .none rfl ?_
          refine JL.done hQ ?_
          refine JQ.go ?_
          refine JC.ret ?_
          refine JQ.ret_block ?_
          refine JQ.ret_then ?_
          obtain rfl := Option.some.inj hF
          exact JQ.outS rfl (.tmp (.tmp .nil)) rfl
        · refine JC.cond_f (b := decide (f_.Case < (w64 (f_.Rod + z_40)))) rfl hc80 ?_
          refine JC.skip ?_
          refine JQ.normal_block ?_
          refine JQ.go ?_
          refine JC.seq ?_
          refine JC.region (by rfl) ?_
          intro hQ
          refine JL.assign .none rfl ?_
          refine JL.assign .none rfl ?_
          refine JL.done hQ ?_
          refine JQ.go ?_
          refine JC.ret ?_
          obtain rfl := Option.some.inj hF
          exact JQ.outS rfl (.tmp (.tmp .nil)) rfl

-- 37 ferrule/ferrulelaw01.isFrac
def F_law01_isFrac (n : Nat) (x_ : Frac) : Option Bool :=
  some ((((decide (1 ≤ x_.Den)) && (decide (x_.Den < 1073741824))) && (decide ((-1073741824) < x_.Num))) && (decide (x_.Num < 1073741824)))
set_option maxRecDepth 100000 in
set_option maxHeartbeats 40000000 in
theorem c_law01_isFrac (n : Nat) (H : Hp) (x_ : Frac) (y : Bool) (hF : F_law01_isFrac n x_ = some y) : SC Try.prog 37 [.agg [.int .i64 x_.Num, .int .i64 x_.Den].toArray] (.bool y) H := by
  rw [F_law01_isFrac] at hF
  refine SC.of (N := 21) Try.func37 rfl rfl rfl fun w => ?_
  refine JC.seq ?_
  refine JC.region (by rfl) ?_
  intro hQ
  refine JL.box (cs := [.int .i64 x_.Num, .int .i64 x_.Den]) rfl .none rfl ?_
  intro b1
  refine JL.assign .none rfl ?_
  refine JL.done hQ ?_
  refine JQ.go ?_
  refine JC.seq ?_
  refine JC.region (by rfl) ?_
  intro hQ
  refine JL.fieldAddr fo_24_1 rfl .none rfl ?_
  refine JL.loadOwn 0 az_3 rfl rfl rfl .none rfl ?_
  refine JL.bin rfl rfl rfl .none rfl ?_
  refine JL.move .none rfl ?_
  refine JL.cut 4 (fun f => f 1 = .pointer (some ⟨b1, 0, none⟩) ∧ f 10 = .bool ((decide (1 ≤ x_.Den)) && (decide (x_.Den < 1073741824)))) ?_ ?_
  · intro hJ2
    rcases bcases (decide (1 ≤ x_.Den)) with hc3 | hc3
    · skip
      refine JL.fieldAddr fo_24_1 rfl (.some rfl rfl rfl hc3) rfl ?_
      refine JL.loadOwn 0 az_3 rfl rfl rfl (.some rfl rfl rfl hc3) rfl ?_
      refine JL.bin rfl rfl rfl (.some rfl rfl rfl hc3) rfl ?_
      refine JL.pick_t (b := decide (1 ≤ x_.Den)) rfl hc3 .none rfl ?_
      exact hJ2 _ ⟨rfl, and_t hc3 rfl⟩
    · skip
      refine JL.skip (.bool rfl rfl rfl hc3) rfl ?_
      refine JL.skip (.bool rfl rfl rfl hc3) rfl ?_
      refine JL.skip (.bool rfl rfl rfl hc3) rfl ?_
      refine JL.pick_f (b := decide (1 ≤ x_.Den)) rfl hc3 .none rfl ?_
      exact hJ2 _ ⟨rfl, and_f hc3 rfl⟩
  · rintro f ⟨hf1, hf10⟩
    refine (JL.norm (i := 1) hf1 (JL.norm (i := 10) hf10 ?_))
    refine JL.move .none rfl ?_
    refine JL.cut 4 (fun f => f 1 = .pointer (some ⟨b1, 0, none⟩) ∧ f 15 = .bool (((decide (1 ≤ x_.Den)) && (decide (x_.Den < 1073741824))) && (decide ((-1073741824) < x_.Num)))) ?_ ?_
    · intro hJ4
      rcases bcases ((decide (1 ≤ x_.Den)) && (decide (x_.Den < 1073741824))) with hc5 | hc5
      · skip
        refine JL.fieldAddr fo_24_0 rfl (.some rfl rfl rfl hc5) rfl ?_
        refine JL.loadOwn 0 az_3 rfl rfl rfl (.some rfl rfl rfl hc5) rfl ?_
        refine JL.bin rfl rfl rfl (.some rfl rfl rfl hc5) rfl ?_
        refine JL.pick_t (b := ((decide (1 ≤ x_.Den)) && (decide (x_.Den < 1073741824)))) rfl hc5 .none rfl ?_
        exact hJ4 _ ⟨rfl, and_t hc5 rfl⟩
      · skip
        refine JL.skip (.bool rfl rfl rfl hc5) rfl ?_
        refine JL.skip (.bool rfl rfl rfl hc5) rfl ?_
        refine JL.skip (.bool rfl rfl rfl hc5) rfl ?_
        refine JL.pick_f (b := ((decide (1 ≤ x_.Den)) && (decide (x_.Den < 1073741824)))) rfl hc5 .none rfl ?_
        exact hJ4 _ ⟨rfl, and_f hc5 rfl⟩
    · rintro f ⟨hf1, hf15⟩
      refine (JL.norm (i := 1) hf1 (JL.norm (i := 15) hf15 ?_))
      refine JL.move .none rfl ?_
      refine JL.cut 4 (fun f => f 20 = .bool ((((decide (1 ≤ x_.Den)) && (decide (x_.Den < 1073741824))) && (decide ((-1073741824) < x_.Num))) && (decide (x_.Num < 1073741824)))) ?_ ?_
      · intro hJ6
        rcases bcases (((decide (1 ≤ x_.Den)) && (decide (x_.Den < 1073741824))) && (decide ((-1073741824) < x_.Num))) with hc7 | hc7
        · skip
          refine JL.fieldAddr fo_24_0 rfl (.some rfl rfl rfl hc7) rfl ?_
          refine JL.loadOwn 0 az_3 rfl rfl rfl (.some rfl rfl rfl hc7) rfl ?_
          refine JL.bin rfl rfl rfl (.some rfl rfl rfl hc7) rfl ?_
          refine JL.pick_t (b := (((decide (1 ≤ x_.Den)) && (decide (x_.Den < 1073741824))) && (decide ((-1073741824) < x_.Num)))) rfl hc7 .none rfl ?_
          exact hJ6 _ (and_t hc7 rfl)
        · skip
          refine JL.skip (.bool rfl rfl rfl hc7) rfl ?_
          refine JL.skip (.bool rfl rfl rfl hc7) rfl ?_
          refine JL.skip (.bool rfl rfl rfl hc7) rfl ?_
          refine JL.pick_f (b := (((decide (1 ≤ x_.Den)) && (decide (x_.Den < 1073741824))) && (decide ((-1073741824) < x_.Num)))) rfl hc7 .none rfl ?_
          exact hJ6 _ (and_f hc7 rfl)
      · rintro f hf20
        refine (JL.norm (i := 20) hf20 ?_)
        refine JL.assign .none rfl ?_
        refine JL.done hQ ?_
        refine JQ.go ?_
        refine JC.ret ?_
        obtain rfl := Option.some.inj hF
        exact JQ.outS rfl (.tmp .nil) rfl

-- 38 ferrule/ferrulelaw01.agrees
def F_law01_agrees (n : Nat) (known : Int) (is : Bool) : Option Bool :=
  if (known == 1) = true then (some is) else (if (known == 2) = true then (some (!is)) else (some (known == 3)))
set_option maxRecDepth 100000 in
set_option maxHeartbeats 40000000 in
theorem c_law01_agrees (n : Nat) (H : Hp) (known : Int) (is : Bool) (y : Bool) (hF : F_law01_agrees n known is = some y) : SC Try.prog 38 [.int .i64 known, .bool is] (.bool y) H := by
  rw [F_law01_agrees] at hF
  refine SC.of (N := 15) Try.func38 rfl rfl rfl fun w => ?_
  refine JC.seq ?_
  refine JC.region (by rfl) ?_
  intro hQ
  refine JL.assign .none rfl ?_
  refine JL.done hQ ?_
  refine JQ.go ?_
  refine JC.seq ?_
  refine JC.seq ?_
  refine JC.region (by rfl) ?_
  intro hQ
  refine JL.move .none rfl ?_
  refine JL.done hQ ?_
  refine JQ.go ?_
  refine JC.block ?_
  refine JC.seq ?_
  refine JC.region (by rfl) ?_
  intro hQ
  refine JL.bin rfl rfl rfl .none rfl ?_
  refine JL.assign .none rfl ?_
  refine JL.done hQ ?_
  refine JQ.go ?_
  rcases ite_some hF with ⟨hc1, hF⟩ | ⟨hc1, hF⟩
  · refine JC.cond_t (b := (known == 1)) rfl hc1 ?_
    refine JC.seq ?_
    refine JC.region (by rfl) ?_
    intro hQ
    refine JL.move .none rfl ?_
    refine JL.assign .none rfl ?_
    refine JL.done hQ ?_
    refine JQ.go ?_
    refine JC.ret ?_
    refine JQ.ret_block ?_
    refine JQ.ret_then ?_
    obtain rfl := Option.some.inj hF
    exact JQ.outS rfl (.tmp .nil) rfl
  · refine JC.cond_f (b := (known == 1)) rfl hc1 ?_
    refine JC.seq ?_
    refine JC.region (by rfl) ?_
    intro hQ
    refine JL.bin rfl rfl rfl .none rfl ?_
    refine JL.assign .none rfl ?_
    refine JL.done hQ ?_
    refine JQ.go ?_
    rcases ite_some hF with ⟨hc2, hF⟩ | ⟨hc2, hF⟩
    · refine JC.cond_t (b := (known == 2)) rfl hc2 ?_
      refine JC.seq ?_
      refine JC.region (by rfl) ?_
      intro hQ
      refine JL.move .none rfl ?_
      refine JL.not rfl .none rfl ?_
      refine JL.assign .none rfl ?_
      refine JL.done hQ ?_
      refine JQ.go ?_
      refine JC.ret ?_
      refine JQ.ret_block ?_
      refine JQ.ret_then ?_
      obtain rfl := Option.some.inj hF
      exact JQ.outS rfl (.tmp .nil) rfl
    · refine JC.cond_f (b := (known == 2)) rfl hc2 ?_
      refine JC.skip ?_
      refine JQ.normal_block ?_
      refine JQ.go ?_
      refine JC.seq ?_
      refine JC.region (by rfl) ?_
      intro hQ
      refine JL.move .none rfl ?_
      refine JL.bin rfl rfl rfl .none rfl ?_
      refine JL.assign .none rfl ?_
      refine JL.done hQ ?_
      refine JQ.go ?_
      refine JC.ret ?_
      obtain rfl := Option.some.inj hF
      exact JQ.outS rfl (.tmp .nil) rfl

-- 39 ferrule/ferruleref01.TurnsWith
def F_ref01_TurnsWith_s1 (n : Nat) (f_ : Frame) (section_ : Int) (p : ref01_Pair) : Int → Option (Int ⊕ (Bool ⊕ Unit))
  | r_192 => if decide (r_192 ≤ f_.High) = true then ((F_ref01_distance n f_ section_ (w64 (r_192 - 1))).bind fun y199 => (F_ref01_CosineOf n y199 p).bind fun y200 => (F_ref01_distance n f_ section_ r_192).bind fun y208 => (F_ref01_CosineOf n y208 p).bind fun y209 => (if (y200.2 && y209.2) = true then ((F_ref01_Less n y209.1 y200.1).bind fun y221 => some y221) else (some false) : Option Bool).bind fun p218 => if p218 = true then (some (Sum.inr (Sum.inl true))) else (some (Sum.inl (w64 (r_192 + 1))))) else (some (Sum.inr (Sum.inr ())))
def F_ref01_TurnsWith (n : Nat) (f_ : Frame) (section_ : Int) (p : ref01_Pair) : Option Bool :=
  (loopO n (F_ref01_TurnsWith_s1 n f_ section_ p) (w64 (f_.Low + 1))).bind fun r117 => match r117 with | .inl o => some o | .inr _ => some false
set_option maxRecDepth 100000 in
set_option maxHeartbeats 40000000 in
theorem c_ref01_TurnsWith (n : Nat) (H : Hp) (f_ : Frame) (f__v0 : Value) (hf__0 : SL H 7 R_Section f__v0 f_.Sections) (section_ : Int) (p : ref01_Pair) (y : Bool) (hF : F_ref01_TurnsWith n f_ section_ p = some y) : SC Try.prog 39 [.agg [f__v0, .int .i64 f_.Low, .int .i64 f_.High, .int .i64 f_.Ease.Num, .int .i64 f_.Ease.Den, .int .i64 f_.Rod, .int .i64 f_.Case].toArray, .int .i64 section_, .agg [.int .i64 p.Arm, .int .i64 p.Stretch].toArray] (.bool y) H := by
  rw [F_ref01_TurnsWith] at hF
  refine SC.of (N := 49) Try.func39 rfl rfl rfl fun w => ?_
  refine JC.seq ?_
  refine JC.region (by rfl) ?_
  intro hQ
  refine JL.box (cs := [f__v0, .int .i64 f_.Low, .int .i64 f_.High, .int .i64 f_.Ease.Num, .int .i64 f_.Ease.Den, .int .i64 f_.Rod, .int .i64 f_.Case]) rfl .none rfl ?_
  intro b1
  refine JL.box (cs := [.int .i64 p.Arm, .int .i64 p.Stretch]) rfl .none rfl ?_
  intro b2
  refine JL.assign .none rfl ?_
  refine JL.done hQ ?_
  refine JQ.go ?_
  refine JC.seq ?_
  refine JC.seq ?_
  refine JC.region (by rfl) ?_
  intro hQ
  refine JL.fieldAddr fo_26_1 rfl .none rfl ?_
  refine JL.loadOwn 1 az_3 rfl rfl rfl .none rfl ?_
  refine JL.bin rfl rfl rfl .none rfl ?_
  refine JL.assign .none rfl ?_
  refine JL.done hQ ?_
  refine JQ.go ?_
  obtain ⟨r117, hlr117, hKr117⟩ := bind_some hF
  refine JC.join (fun (_ : Unit) H116 f bs gs => bs = [] ∧ gs = [] ∧ HSub H H116 ∧ Sum.inr () = r117) ?_ ?_
  · skip
    refine JC.block ?_
    refine JC.loop hlr117 (fun (r_192 : Int) H193 f bs gs => f 1 = .int .i64 section_ ∧ f 3 = .pointer (some ⟨b1, 0, none⟩) ∧ f 5 = .pointer (some ⟨b2, 0, none⟩) ∧ f 7 = .int .i64 r_192 ∧ bs = [(b2, .cells [.int .i64 p.Arm, .int .i64 p.Stretch].toArray 45), (b1, .cells [f__v0, .int .i64 f_.Low, .int .i64 f_.High, .int .i64 f_.Ease.Num, .int .i64 f_.Ease.Den, .int .i64 f_.Rod, .int .i64 f_.Case].toArray 26)] ∧ gs = [] ∧ HSub H H193) ⟨rfl, rfl, rfl, rfl, rfl, rfl, (HSub.refl _)⟩ ?_
    rintro r_192 x195 H193 f bs gs ⟨hf1, hf3, hf5, hf7, rfl, rfl, hs193⟩ hF hr194
    rw [F_ref01_TurnsWith_s1] at hF
    refine (JC.norm (i := 1) hf1 (JC.norm (i := 3) hf3 (JC.norm (i := 5) hf5 (JC.norm (i := 7) hf7 ?_))))
    refine JC.seq ?_
    refine JC.seq ?_
    refine JC.region (by rfl) ?_
    intro hQ
    refine JL.move .none rfl ?_
    refine JL.fieldAddr fo_26_2 rfl .none rfl ?_
    refine JL.loadOwn 1 az_3 rfl rfl rfl .none rfl ?_
    refine JL.bin rfl rfl rfl .none rfl ?_
    refine JL.done hQ ?_
    refine JQ.go ?_
    rcases ite_some hF with ⟨hc196, hF⟩ | ⟨hc196, hF⟩
    · refine JC.cond_t (b := decide (r_192 ≤ f_.High)) rfl hc196 ?_
      refine JC.skip ?_
      refine JQ.go ?_
      refine JC.seq ?_
      refine JC.block ?_
      refine JC.seq ?_
      obtain ⟨y199, hy199, hF⟩ := bind_some hF
      obtain ⟨y200, hy200, hF⟩ := bind_some hF
      refine JC.mixed 13 13 #[false, false, false, false, false, false, false, false, false, false, false, false, false] [(b2, .cells [.int .i64 p.Arm, .int .i64 p.Stretch].toArray 45), (b1, .cells [f__v0, .int .i64 f_.Low, .int .i64 f_.High, .int .i64 f_.Ease.Num, .int .i64 f_.Ease.Den, .int .i64 f_.Rod, .int .i64 f_.Case].toArray 26)] (by rfl) mo_ (by kernel_rfl) (by kernel_rfl) ?_
      intro hQ hE
      refine JA.cut 2 #[true, true, true, true, true, true, true, true, true, true, true, false, false] (fun H205 f bs gs => ∃ (b204 : Nat), f 1 = .int .i64 section_ ∧ f 3 = .pointer (some ⟨b1, 0, none⟩) ∧ f 5 = .pointer (some ⟨b2, 0, none⟩) ∧ f 7 = .int .i64 r_192 ∧ f 8 = .pointer (some ⟨b204, 0, none⟩) ∧ f 29 = .agg [.int .i64 y200.1.Num, .int .i64 y200.1.Den].toArray ∧ f 30 = .bool y200.2 ∧ bs = [(b204, .cells [.int .i64 0, .int .i64 0].toArray 24), (b2, .cells [.int .i64 p.Arm, .int .i64 p.Stretch].toArray 45), (b1, .cells [f__v0, .int .i64 f_.Low, .int .i64 f_.High, .int .i64 f_.Ease.Num, .int .i64 f_.Ease.Den, .int .i64 f_.Rod, .int .i64 f_.Case].toArray 26)] ∧ gs = [] ∧ HSub H193 H205) ?_ ?_
      · rintro H205 f bs gs ⟨b204, hf1, hf3, hf5, hf7, hf8, hf29, hf30, rfl, rfl, hs205⟩
        refine (JA.norm (i := 1) hf1 (JA.norm (i := 3) hf3 (JA.norm (i := 5) hf5 (JA.norm (i := 7) hf7 (JA.norm (i := 8) hf8 (JA.norm (i := 29) hf29 (JA.norm (i := 30) hf30 ?_)))))))
        refine JA.many [11] (by kernel_rfl) (by simp) (all_one ⟨_, #[true, true, true, true, true, true, true, true, true, true, true, true, false], rfl, (by kernel_rfl), ?_⟩)
        refine JL.storeOwn 0 (cs := [.int .i64 y200.1.Num, .int .i64 y200.1.Den]) az_24 rfl rfl rfl (one_cons rfl (one_cons rfl one_nil)) rfl rfl .none ?_
        refine JA.after hE hs205 (.cons _ (.cons_cons _ (.cons_cons _ (List.nil_sublist _)))) ?_
        refine JA.take 12 (listed' := #[true, true, true, true, true, true, true, true, true, true, true, true, true]) hQ rfl (by kernel_rfl) (by kernel_rfl) (by kernel_rfl) (by kernel_rfl) (by kernel_rfl) hE hs205 (.cons _ (.cons_cons _ (.cons_cons _ (List.nil_sublist _)))) ?_
        refine JL.assign .none rfl ?_
        refine JA.cont ?_
        refine JA.done hQ (by kernel_rfl) ?_
        refine JQ.go ?_
        refine JC.seq ?_
        obtain ⟨y208, hy208, hF⟩ := bind_some hF
        obtain ⟨y209, hy209, hF⟩ := bind_some hF
        refine JC.mixed 12 12 #[false, false, false, false, false, false, false, false, false, false, false, false] [(b204, .cells [.int .i64 y200.1.Num, .int .i64 y200.1.Den].toArray 24), (b2, .cells [.int .i64 p.Arm, .int .i64 p.Stretch].toArray 45), (b1, .cells [f__v0, .int .i64 f_.Low, .int .i64 f_.High, .int .i64 f_.Ease.Num, .int .i64 f_.Ease.Den, .int .i64 f_.Rod, .int .i64 f_.Case].toArray 26)] (by rfl) mo_ (by kernel_rfl) (by kernel_rfl) ?_
        intro hQ hE
        refine JA.cut 2 #[true, true, true, true, true, true, true, true, true, true, false, false] (fun H214 f bs gs => ∃ (b213 : Nat), f 1 = .int .i64 section_ ∧ f 3 = .pointer (some ⟨b1, 0, none⟩) ∧ f 5 = .pointer (some ⟨b2, 0, none⟩) ∧ f 7 = .int .i64 r_192 ∧ f 8 = .pointer (some ⟨b204, 0, none⟩) ∧ f 9 = .bool y200.2 ∧ f 10 = .pointer (some ⟨b213, 0, none⟩) ∧ f 38 = .agg [.int .i64 y209.1.Num, .int .i64 y209.1.Den].toArray ∧ f 39 = .bool y209.2 ∧ bs = [(b213, .cells [.int .i64 0, .int .i64 0].toArray 24), (b204, .cells [.int .i64 y200.1.Num, .int .i64 y200.1.Den].toArray 24), (b2, .cells [.int .i64 p.Arm, .int .i64 p.Stretch].toArray 45), (b1, .cells [f__v0, .int .i64 f_.Low, .int .i64 f_.High, .int .i64 f_.Ease.Num, .int .i64 f_.Ease.Den, .int .i64 f_.Rod, .int .i64 f_.Case].toArray 26)] ∧ gs = [] ∧ HSub H205 H214) ?_ ?_
        · rintro H214 f bs gs ⟨b213, hf1, hf3, hf5, hf7, hf8, hf9, hf10, hf38, hf39, rfl, rfl, hs214⟩
          refine (JA.norm (i := 1) hf1 (JA.norm (i := 3) hf3 (JA.norm (i := 5) hf5 (JA.norm (i := 7) hf7 (JA.norm (i := 8) hf8 (JA.norm (i := 9) hf9 (JA.norm (i := 10) hf10 (JA.norm (i := 38) hf38 (JA.norm (i := 39) hf39 ?_)))))))))
          refine JA.many [10] (by kernel_rfl) (by simp) (all_one ⟨_, #[true, true, true, true, true, true, true, true, true, true, true, false], rfl, (by kernel_rfl), ?_⟩)
          refine JL.storeOwn 0 (cs := [.int .i64 y209.1.Num, .int .i64 y209.1.Den]) az_24 rfl rfl rfl (one_cons rfl (one_cons rfl one_nil)) rfl rfl .none ?_
          refine JA.after hE hs214 (.cons _ (.cons_cons _ (.cons_cons _ (.cons_cons _ (List.nil_sublist _))))) ?_
          refine JA.take 11 (listed' := #[true, true, true, true, true, true, true, true, true, true, true, true]) hQ rfl (by kernel_rfl) (by kernel_rfl) (by kernel_rfl) (by kernel_rfl) (by kernel_rfl) hE hs214 (.cons _ (.cons_cons _ (.cons_cons _ (.cons_cons _ (List.nil_sublist _))))) ?_
          refine JL.assign .none rfl ?_
          refine JA.cont ?_
          refine JA.done hQ (by kernel_rfl) ?_
          refine JQ.go ?_
          refine JC.seq ?_
          refine JC.region (by rfl) ?_
          intro hQ
          refine JL.move .none rfl ?_
          refine JL.move .none rfl ?_
          refine JL.cut 2 (fun f => f 1 = .int .i64 section_ ∧ f 3 = .pointer (some ⟨b1, 0, none⟩) ∧ f 5 = .pointer (some ⟨b2, 0, none⟩) ∧ f 7 = .int .i64 r_192 ∧ f 8 = .pointer (some ⟨b204, 0, none⟩) ∧ f 10 = .pointer (some ⟨b213, 0, none⟩) ∧ f 43 = .bool (y200.2 && y209.2)) ?_ ?_
          · intro hJ215
            rcases bcases y200.2 with hc216 | hc216
            · skip
              refine JL.move (.some rfl rfl rfl hc216) rfl ?_
              refine JL.pick_t (b := y200.2) rfl hc216 .none rfl ?_
              exact hJ215 _ ⟨rfl, rfl, rfl, rfl, rfl, rfl, and_t hc216 rfl⟩
            · skip
              refine JL.skip (.bool rfl rfl rfl hc216) rfl ?_
              refine JL.pick_f (b := y200.2) rfl hc216 .none rfl ?_
              exact hJ215 _ ⟨rfl, rfl, rfl, rfl, rfl, rfl, and_f hc216 rfl⟩
          · rintro f ⟨hf1, hf3, hf5, hf7, hf8, hf10, hf43⟩
            refine (JL.norm (i := 1) hf1 (JL.norm (i := 3) hf3 (JL.norm (i := 5) hf5 (JL.norm (i := 7) hf7 (JL.norm (i := 8) hf8 (JL.norm (i := 10) hf10 (JL.norm (i := 43) hf43 ?_)))))))
            refine JL.move .none rfl ?_
            obtain ⟨p218, hp218, hF⟩ := bind_some hF
            refine JL.cut 4 (fun f => f 1 = .int .i64 section_ ∧ f 3 = .pointer (some ⟨b1, 0, none⟩) ∧ f 5 = .pointer (some ⟨b2, 0, none⟩) ∧ f 7 = .int .i64 r_192 ∧ f 48 = .bool p218) ?_ ?_
            · intro hJ219
              rcases ite_some hp218 with ⟨hc220, hF⟩ | ⟨hc220, hF⟩
              · skip
                refine JL.loadOwn 0 az_24 rfl rfl rfl (.some rfl rfl rfl hc220) rfl ?_
                refine JL.loadOwn 1 az_24 rfl rfl rfl (.some rfl rfl rfl hc220) rfl ?_
                obtain ⟨y221, hy221, hF⟩ := bind_some hF
                refine JL.callS (c_ref01_Less n H214 y209.1 y200.1 y221 hy221) rfl en_29 (.some rfl rfl rfl hc220) rfl ?_
                refine JL.pick_t (b := (y200.2 && y209.2)) rfl hc220 .none rfl ?_
                obtain rfl := Option.some.inj hF
                exact hJ219 _ ⟨rfl, rfl, rfl, rfl, rfl⟩
              · skip
                refine JL.skip (.bool rfl rfl rfl hc220) rfl ?_
                refine JL.skip (.bool rfl rfl rfl hc220) rfl ?_
                refine JL.skip (.bool rfl rfl rfl hc220) rfl ?_
                refine JL.pick_f (b := (y200.2 && y209.2)) rfl hc220 .none rfl ?_
                obtain rfl := Option.some.inj hF
                exact hJ219 _ ⟨rfl, rfl, rfl, rfl, rfl⟩
            · rintro f ⟨hf1, hf3, hf5, hf7, hf48⟩
              refine (JL.norm (i := 1) hf1 (JL.norm (i := 3) hf3 (JL.norm (i := 5) hf5 (JL.norm (i := 7) hf7 (JL.norm (i := 48) hf48 ?_)))))
              refine JL.done hQ ?_
              refine JQ.go ?_
              rcases ite_some hF with ⟨hc222, hF⟩ | ⟨hc222, hF⟩
              · refine JC.cond_t (b := p218) rfl hc222 ?_
                refine JC.seq ?_
                refine JC.region (by rfl) ?_
                intro hQ
                refine JL.assign .none rfl ?_
                refine JL.done hQ ?_
                refine JQ.go ?_
                refine JC.ret ?_
                refine JQ.ret_block ?_
                refine JQ.ret_then ?_
                refine JQ.ret_then ?_
                refine JQ.ret_block ?_
                refine JQ.ret_join ?_
                refine JQ.ret_then ?_
                obtain rfl := Option.some.inj hF
                have ehr194 := hr194 _ rfl
                subst ehr194
                have hF := hKr117
                try dsimp only at hF
                obtain rfl := Option.some.inj hF
                exact JQ.outS rfl (.tmp .nil) rfl
              · refine JC.cond_f (b := p218) rfl hc222 ?_
                refine JC.skip ?_
                refine JQ.normal_block ?_
                refine JQ.go ?_
                refine JC.region (by rfl) ?_
                intro hQ
                refine JL.move .none rfl ?_
                refine JL.bin rfl rfl rfl .none rfl ?_
                refine JL.assign .none rfl ?_
                refine JL.done hQ ?_
                obtain rfl := Option.some.inj hF
                refine JQ.mask [false, false, true, true] [] ?_
                exact JQ.next rfl ⟨rfl, rfl, rfl, rfl, rfl, rfl, (HSub.trans hs193 (HSub.trans hs205 hs214))⟩
        intro nd213_0
        refine JA.cut 6 #[true, true, true, true, true, false, false, false, false, true, false, false] (fun H223 f bs gs => ∃ (b212 : Nat), f 1 = .int .i64 section_ ∧ f 3 = .pointer (some ⟨b1, 0, none⟩) ∧ f 5 = .pointer (some ⟨b2, 0, none⟩) ∧ f 7 = .int .i64 r_192 ∧ f 8 = .pointer (some ⟨b204, 0, none⟩) ∧ f 9 = .bool y200.2 ∧ f 10 = .pointer (some ⟨b212, 0, none⟩) ∧ f 35 = .int .i64 y208 ∧ f 36 = .agg [.int .i64 p.Arm, .int .i64 p.Stretch].toArray ∧ bs = [(b212, .cells [.int .i64 0, .int .i64 0].toArray 24), (b204, .cells [.int .i64 y200.1.Num, .int .i64 y200.1.Den].toArray 24), (b2, .cells [.int .i64 p.Arm, .int .i64 p.Stretch].toArray 45), (b1, .cells [f__v0, .int .i64 f_.Low, .int .i64 f_.High, .int .i64 f_.Ease.Num, .int .i64 f_.Ease.Den, .int .i64 f_.Rod, .int .i64 f_.Case].toArray 26)] ∧ gs = [] ∧ HSub H205 H223) ?_ ?_
        · rintro H223 f bs gs ⟨b212, hf1, hf3, hf5, hf7, hf8, hf9, hf10, hf35, hf36, rfl, rfl, hs223⟩
          refine (JA.norm (i := 1) hf1 (JA.norm (i := 3) hf3 (JA.norm (i := 5) hf5 (JA.norm (i := 7) hf7 (JA.norm (i := 8) hf8 (JA.norm (i := 9) hf9 (JA.norm (i := 10) hf10 (JA.norm (i := 35) hf35 (JA.norm (i := 36) hf36 ?_)))))))))
          refine JA.many [5] (by kernel_rfl) (by simp) (all_one ⟨_, #[true, true, true, true, true, true, false, false, false, true, false, false], rfl, (by kernel_rfl), ?_⟩)
          refine JL.callS (c_ref01_CosineOf n H223 y208 p y209 hy209) rfl en_26 .none rfl ?_
          refine JA.after hE hs223 (.cons _ (.cons_cons _ (.cons_cons _ (.cons_cons _ (List.nil_sublist _))))) ?_
          refine JA.take 6 (listed' := #[true, true, true, true, true, true, true, false, false, true, false, false]) hQ rfl (by kernel_rfl) (by kernel_rfl) (by kernel_rfl) (by kernel_rfl) (by kernel_rfl) hE hs223 (.cons _ (.cons_cons _ (.cons_cons _ (.cons_cons _ (List.nil_sublist _))))) ?_
          refine JL.move .none rfl ?_
          refine JA.cont ?_
          refine JA.take 7 (listed' := #[true, true, true, true, true, true, true, true, false, true, false, false]) hQ rfl (by kernel_rfl) (by kernel_rfl) (by kernel_rfl) (by kernel_rfl) (by kernel_rfl) hE hs223 (.cons _ (.cons_cons _ (.cons_cons _ (.cons_cons _ (List.nil_sublist _))))) ?_
          refine JL.extract rfl rfl .none rfl ?_
          refine JA.cont ?_
          refine JA.take 8 (listed' := #[true, true, true, true, true, true, true, true, true, true, false, false]) hQ rfl (by kernel_rfl) (by kernel_rfl) (by kernel_rfl) (by kernel_rfl) (by kernel_rfl) hE hs223 (.cons _ (.cons_cons _ (.cons_cons _ (.cons_cons _ (List.nil_sublist _))))) ?_
          refine JL.extract rfl rfl .none rfl ?_
          refine JA.cont ?_
          exact nd213_0 _ _ _ _ ⟨b212, rfl, rfl, rfl, rfl, rfl, rfl, rfl, rfl, rfl, rfl, rfl, hs223⟩
        intro nd213_1
        refine JA.take 0 (listed' := #[true, false, false, false, false, false, false, false, false, false, false, false]) hQ rfl (by kernel_rfl) (by kernel_rfl) (by kernel_rfl) (by kernel_rfl) (by kernel_rfl) hE (HSub.refl _) (.cons_cons _ (.cons_cons _ (.cons_cons _ (List.nil_sublist _)))) ?_
        refine JL.loadOwn 2 az_26 rfl rfl rfl .none rfl ?_
        refine JA.cont ?_
        refine JA.take 1 (listed' := #[true, true, false, false, false, false, false, false, false, false, false, false]) hQ rfl (by kernel_rfl) (by kernel_rfl) (by kernel_rfl) (by kernel_rfl) (by kernel_rfl) hE (HSub.refl _) (.cons_cons _ (.cons_cons _ (.cons_cons _ (List.nil_sublist _)))) ?_
        refine JL.move .none rfl ?_
        refine JA.cont ?_
        refine JA.take 2 (listed' := #[true, true, true, false, false, false, false, false, false, false, false, false]) hQ rfl (by kernel_rfl) (by kernel_rfl) (by kernel_rfl) (by kernel_rfl) (by kernel_rfl) hE (HSub.refl _) (.cons_cons _ (.cons_cons _ (.cons_cons _ (List.nil_sublist _)))) ?_
        refine JL.move .none rfl ?_
        refine JA.cont ?_
        refine JA.take 4 (listed' := #[true, true, true, false, true, false, false, false, false, false, false, false]) hQ rfl (by kernel_rfl) (by kernel_rfl) (by kernel_rfl) (by kernel_rfl) (by kernel_rfl) hE (HSub.refl _) (.cons_cons _ (.cons_cons _ (.cons_cons _ (List.nil_sublist _)))) ?_
        refine JL.loadOwn 1 az_45 rfl rfl rfl .none rfl ?_
        refine JA.cont ?_
        refine JA.many [3, 9] (by kernel_rfl) (by simp) (all_cons ⟨_, #[true, true, true, true, true, false, false, false, false, false, false, false], rfl, (by kernel_rfl), ?_⟩ (all_one ⟨_, #[true, true, true, false, true, false, false, false, false, true, false, false], rfl, (by kernel_rfl), ?_⟩))
        · skip
          refine JL.callS (c_ref01_distance n H205 f_ f__v0 (SL.mono R_Section_mono (HSub.trans hs193 hs205) hf__0) section_ r_192 y208 hy208) rfl en_60 .none rfl ?_
          refine JA.after hE (HSub.refl _) (.cons_cons _ (.cons_cons _ (.cons_cons _ (List.nil_sublist _)))) ?_
          refine JA.many [5, 9] (by kernel_rfl) (by simp) (all_cons ⟨_, #[true, true, true, true, true, true, false, false, false, false, false, false], rfl, (by kernel_rfl), ?_⟩ (all_one ⟨_, #[true, true, true, true, true, false, false, false, false, true, false, false], rfl, (by kernel_rfl), ?_⟩))
          · skip
            refine JL.callS (c_ref01_CosineOf n H205 y208 p y209 hy209) rfl en_26 .none rfl ?_
            refine JA.after hE (HSub.refl _) (.cons_cons _ (.cons_cons _ (.cons_cons _ (List.nil_sublist _)))) ?_
            refine JA.take 6 (listed' := #[true, true, true, true, true, true, true, false, false, false, false, false]) hQ rfl (by kernel_rfl) (by kernel_rfl) (by kernel_rfl) (by kernel_rfl) (by kernel_rfl) hE (HSub.refl _) (.cons_cons _ (.cons_cons _ (.cons_cons _ (List.nil_sublist _)))) ?_
            refine JL.move .none rfl ?_
            refine JA.cont ?_
            refine JA.take 7 (listed' := #[true, true, true, true, true, true, true, true, false, false, false, false]) hQ rfl (by kernel_rfl) (by kernel_rfl) (by kernel_rfl) (by kernel_rfl) (by kernel_rfl) hE (HSub.refl _) (.cons_cons _ (.cons_cons _ (.cons_cons _ (List.nil_sublist _)))) ?_
            refine JL.extract rfl rfl .none rfl ?_
            refine JA.cont ?_
            refine JA.take 8 (listed' := #[true, true, true, true, true, true, true, true, true, false, false, false]) hQ rfl (by kernel_rfl) (by kernel_rfl) (by kernel_rfl) (by kernel_rfl) (by kernel_rfl) hE (HSub.refl _) (.cons_cons _ (.cons_cons _ (.cons_cons _ (List.nil_sublist _)))) ?_
            refine JL.extract rfl rfl .none rfl ?_
            refine JA.cont ?_
            refine JA.many [9] (by kernel_rfl) (by simp) (all_one ⟨_, #[true, true, true, true, true, true, true, true, true, true, false, false], rfl, (by kernel_rfl), ?_⟩)
            refine JL.alloc ze_24 .none rfl ?_
            intro b224
            refine JA.after hE (HSub.refl _) (.cons _ (.cons_cons _ (.cons_cons _ (.cons_cons _ (List.nil_sublist _))))) ?_
            exact nd213_0 _ _ _ _ ⟨b224, rfl, rfl, rfl, rfl, rfl, rfl, rfl, rfl, rfl, rfl, rfl, (HSub.refl _)⟩
          · skip
            refine JL.alloc ze_24 .none rfl ?_
            intro b225
            refine JA.after hE (HSub.refl _) (.cons _ (.cons_cons _ (.cons_cons _ (.cons_cons _ (List.nil_sublist _))))) ?_
            exact nd213_1 _ _ _ _ ⟨b225, rfl, rfl, rfl, rfl, rfl, rfl, rfl, rfl, rfl, rfl, rfl, (HSub.refl _)⟩
        · skip
          refine JL.alloc ze_24 .none rfl ?_
          intro b226
          refine JA.after hE (HSub.refl _) (.cons _ (.cons_cons _ (.cons_cons _ (.cons_cons _ (List.nil_sublist _))))) ?_
          refine JA.many [3] (by kernel_rfl) (by simp) (all_one ⟨_, #[true, true, true, true, true, false, false, false, false, true, false, false], rfl, (by kernel_rfl), ?_⟩)
          refine JL.callS (c_ref01_distance n H205 f_ f__v0 (SL.mono R_Section_mono (HSub.trans hs193 hs205) hf__0) section_ r_192 y208 hy208) rfl en_60 .none rfl ?_
          refine JA.after hE (HSub.refl _) (.cons _ (.cons_cons _ (.cons_cons _ (.cons_cons _ (List.nil_sublist _))))) ?_
          exact nd213_1 _ _ _ _ ⟨b226, rfl, rfl, rfl, rfl, rfl, rfl, rfl, rfl, rfl, rfl, rfl, (HSub.refl _)⟩
      intro nd204_0
      refine JA.cut 6 #[true, true, true, true, true, true, false, false, false, false, true, false, false] (fun H227 f bs gs => ∃ (b203 : Nat), f 1 = .int .i64 section_ ∧ f 3 = .pointer (some ⟨b1, 0, none⟩) ∧ f 5 = .pointer (some ⟨b2, 0, none⟩) ∧ f 7 = .int .i64 r_192 ∧ f 8 = .pointer (some ⟨b203, 0, none⟩) ∧ f 26 = .int .i64 y199 ∧ f 27 = .agg [.int .i64 p.Arm, .int .i64 p.Stretch].toArray ∧ bs = [(b203, .cells [.int .i64 0, .int .i64 0].toArray 24), (b2, .cells [.int .i64 p.Arm, .int .i64 p.Stretch].toArray 45), (b1, .cells [f__v0, .int .i64 f_.Low, .int .i64 f_.High, .int .i64 f_.Ease.Num, .int .i64 f_.Ease.Den, .int .i64 f_.Rod, .int .i64 f_.Case].toArray 26)] ∧ gs = [] ∧ HSub H193 H227) ?_ ?_
      · rintro H227 f bs gs ⟨b203, hf1, hf3, hf5, hf7, hf8, hf26, hf27, rfl, rfl, hs227⟩
        refine (JA.norm (i := 1) hf1 (JA.norm (i := 3) hf3 (JA.norm (i := 5) hf5 (JA.norm (i := 7) hf7 (JA.norm (i := 8) hf8 (JA.norm (i := 26) hf26 (JA.norm (i := 27) hf27 ?_)))))))
        refine JA.many [6] (by kernel_rfl) (by simp) (all_one ⟨_, #[true, true, true, true, true, true, true, false, false, false, true, false, false], rfl, (by kernel_rfl), ?_⟩)
        refine JL.callS (c_ref01_CosineOf n H227 y199 p y200 hy200) rfl en_26 .none rfl ?_
        refine JA.after hE hs227 (.cons _ (.cons_cons _ (.cons_cons _ (List.nil_sublist _)))) ?_
        refine JA.take 7 (listed' := #[true, true, true, true, true, true, true, true, false, false, true, false, false]) hQ rfl (by kernel_rfl) (by kernel_rfl) (by kernel_rfl) (by kernel_rfl) (by kernel_rfl) hE hs227 (.cons _ (.cons_cons _ (.cons_cons _ (List.nil_sublist _)))) ?_
        refine JL.move .none rfl ?_
        refine JA.cont ?_
        refine JA.take 8 (listed' := #[true, true, true, true, true, true, true, true, true, false, true, false, false]) hQ rfl (by kernel_rfl) (by kernel_rfl) (by kernel_rfl) (by kernel_rfl) (by kernel_rfl) hE hs227 (.cons _ (.cons_cons _ (.cons_cons _ (List.nil_sublist _)))) ?_
        refine JL.extract rfl rfl .none rfl ?_
        refine JA.cont ?_
        refine JA.take 9 (listed' := #[true, true, true, true, true, true, true, true, true, true, true, false, false]) hQ rfl (by kernel_rfl) (by kernel_rfl) (by kernel_rfl) (by kernel_rfl) (by kernel_rfl) hE hs227 (.cons _ (.cons_cons _ (.cons_cons _ (List.nil_sublist _)))) ?_
        refine JL.extract rfl rfl .none rfl ?_
        refine JA.cont ?_
        exact nd204_0 _ _ _ _ ⟨b203, rfl, rfl, rfl, rfl, rfl, rfl, rfl, rfl, rfl, hs227⟩
      intro nd204_1
      refine JA.take 0 (listed' := #[true, false, false, false, false, false, false, false, false, false, false, false, false]) hQ rfl (by kernel_rfl) (by kernel_rfl) (by kernel_rfl) (by kernel_rfl) (by kernel_rfl) hE (HSub.refl _) (.cons_cons _ (.cons_cons _ (List.nil_sublist _))) ?_
      refine JL.loadOwn 1 az_26 rfl rfl rfl .none rfl ?_
      refine JA.cont ?_
      refine JA.take 1 (listed' := #[true, true, false, false, false, false, false, false, false, false, false, false, false]) hQ rfl (by kernel_rfl) (by kernel_rfl) (by kernel_rfl) (by kernel_rfl) (by kernel_rfl) hE (HSub.refl _) (.cons_cons _ (.cons_cons _ (List.nil_sublist _))) ?_
      refine JL.move .none rfl ?_
      refine JA.cont ?_
      refine JA.take 2 (listed' := #[true, true, true, false, false, false, false, false, false, false, false, false, false]) hQ rfl (by kernel_rfl) (by kernel_rfl) (by kernel_rfl) (by kernel_rfl) (by kernel_rfl) hE (HSub.refl _) (.cons_cons _ (.cons_cons _ (List.nil_sublist _))) ?_
      refine JL.move .none rfl ?_
      refine JA.cont ?_
      refine JA.take 3 (listed' := #[true, true, true, true, false, false, false, false, false, false, false, false, false]) hQ rfl (by kernel_rfl) (by kernel_rfl) (by kernel_rfl) (by kernel_rfl) (by kernel_rfl) hE (HSub.refl _) (.cons_cons _ (.cons_cons _ (List.nil_sublist _))) ?_
      refine JL.bin rfl rfl rfl .none rfl ?_
      refine JA.cont ?_
      refine JA.take 5 (listed' := #[true, true, true, true, false, true, false, false, false, false, false, false, false]) hQ rfl (by kernel_rfl) (by kernel_rfl) (by kernel_rfl) (by kernel_rfl) (by kernel_rfl) hE (HSub.refl _) (.cons_cons _ (.cons_cons _ (List.nil_sublist _))) ?_
      refine JL.loadOwn 0 az_45 rfl rfl rfl .none rfl ?_
      refine JA.cont ?_
      refine JA.many [4, 10] (by kernel_rfl) (by simp) (all_cons ⟨_, #[true, true, true, true, true, true, false, false, false, false, false, false, false], rfl, (by kernel_rfl), ?_⟩ (all_one ⟨_, #[true, true, true, true, false, true, false, false, false, false, true, false, false], rfl, (by kernel_rfl), ?_⟩))
      · skip
        refine JL.callS (c_ref01_distance n H193 f_ f__v0 (SL.mono R_Section_mono hs193 hf__0) section_ (w64 (r_192 - 1)) y199 hy199) rfl en_60 .none rfl ?_
        refine JA.after hE (HSub.refl _) (.cons_cons _ (.cons_cons _ (List.nil_sublist _))) ?_
        refine JA.many [6, 10] (by kernel_rfl) (by simp) (all_cons ⟨_, #[true, true, true, true, true, true, true, false, false, false, false, false, false], rfl, (by kernel_rfl), ?_⟩ (all_one ⟨_, #[true, true, true, true, true, true, false, false, false, false, true, false, false], rfl, (by kernel_rfl), ?_⟩))
        · skip
          refine JL.callS (c_ref01_CosineOf n H193 y199 p y200 hy200) rfl en_26 .none rfl ?_
          refine JA.after hE (HSub.refl _) (.cons_cons _ (.cons_cons _ (List.nil_sublist _))) ?_
          refine JA.take 7 (listed' := #[true, true, true, true, true, true, true, true, false, false, false, false, false]) hQ rfl (by kernel_rfl) (by kernel_rfl) (by kernel_rfl) (by kernel_rfl) (by kernel_rfl) hE (HSub.refl _) (.cons_cons _ (.cons_cons _ (List.nil_sublist _))) ?_
          refine JL.move .none rfl ?_
          refine JA.cont ?_
          refine JA.take 8 (listed' := #[true, true, true, true, true, true, true, true, true, false, false, false, false]) hQ rfl (by kernel_rfl) (by kernel_rfl) (by kernel_rfl) (by kernel_rfl) (by kernel_rfl) hE (HSub.refl _) (.cons_cons _ (.cons_cons _ (List.nil_sublist _))) ?_
          refine JL.extract rfl rfl .none rfl ?_
          refine JA.cont ?_
          refine JA.take 9 (listed' := #[true, true, true, true, true, true, true, true, true, true, false, false, false]) hQ rfl (by kernel_rfl) (by kernel_rfl) (by kernel_rfl) (by kernel_rfl) (by kernel_rfl) hE (HSub.refl _) (.cons_cons _ (.cons_cons _ (List.nil_sublist _))) ?_
          refine JL.extract rfl rfl .none rfl ?_
          refine JA.cont ?_
          refine JA.many [10] (by kernel_rfl) (by simp) (all_one ⟨_, #[true, true, true, true, true, true, true, true, true, true, true, false, false], rfl, (by kernel_rfl), ?_⟩)
          refine JL.alloc ze_24 .none rfl ?_
          intro b228
          refine JA.after hE (HSub.refl _) (.cons _ (.cons_cons _ (.cons_cons _ (List.nil_sublist _)))) ?_
          exact nd204_0 _ _ _ _ ⟨b228, rfl, rfl, rfl, rfl, rfl, rfl, rfl, rfl, rfl, (HSub.refl _)⟩
        · skip
          refine JL.alloc ze_24 .none rfl ?_
          intro b229
          refine JA.after hE (HSub.refl _) (.cons _ (.cons_cons _ (.cons_cons _ (List.nil_sublist _)))) ?_
          exact nd204_1 _ _ _ _ ⟨b229, rfl, rfl, rfl, rfl, rfl, rfl, rfl, rfl, rfl, (HSub.refl _)⟩
      · skip
        refine JL.alloc ze_24 .none rfl ?_
        intro b230
        refine JA.after hE (HSub.refl _) (.cons _ (.cons_cons _ (.cons_cons _ (List.nil_sublist _)))) ?_
        refine JA.many [4] (by kernel_rfl) (by simp) (all_one ⟨_, #[true, true, true, true, true, true, false, false, false, false, true, false, false], rfl, (by kernel_rfl), ?_⟩)
        refine JL.callS (c_ref01_distance n H193 f_ f__v0 (SL.mono R_Section_mono hs193 hf__0) section_ (w64 (r_192 - 1)) y199 hy199) rfl en_60 .none rfl ?_
        refine JA.after hE (HSub.refl _) (.cons _ (.cons_cons _ (.cons_cons _ (List.nil_sublist _)))) ?_
        exact nd204_1 _ _ _ _ ⟨b230, rfl, rfl, rfl, rfl, rfl, rfl, rfl, rfl, rfl, (HSub.refl _)⟩
    · refine JC.cond_f (b := decide (r_192 ≤ f_.High)) rfl hc196 ?_
      refine JC.exit ?_
      refine JQ.exit_then ?_
      refine JQ.exit_then ?_
      refine JQ.exit_block ?_
      obtain rfl := Option.some.inj hF
      have ehr194 := hr194 _ rfl
      subst ehr194
      refine JQ.mask [false, false] [] ?_
      exact JQ.join () ⟨rfl, rfl, hs193, rfl⟩
  · rintro _ H116 f bs gs ⟨rfl, rfl, hs116, rfl⟩
    have hF := hKr117
    try dsimp only at hF
    refine JQ.go ?_
    refine JC.seq ?_
    refine JC.region (by rfl) ?_
    intro hQ
    refine JL.assign .none rfl ?_
    refine JL.done hQ ?_
    refine JQ.go ?_
    refine JC.ret ?_
    obtain rfl := Option.some.inj hF
    exact JQ.outS rfl (.tmp .nil) rfl

end Go.Proofs.Ytmgnhaibbeinbaa
