/-
  Printed by a program: functions of the translation as plain functions, and their contracts.
-/
import Derived.Test.YtmgnhaibbeinbaaGenK15
namespace Go.Proofs.Ytmgnhaibbeinbaa
open Go Go.RowKit Go.Dec
set_option linter.unusedVariables false
-- 46 ferrule/ferrulelaw01.sameInts
def F_law01_sameInts_s1 (n : Nat) (a : List Int) (b : List Int) : Int → Option (Int ⊕ (Bool ⊕ Unit))
  | i_126 => if decide (i_126 < (a.length : Int)) = true then ((geti a i_126).bind fun y141 => (geti b i_126).bind fun y146 => if (y141 != y146) = true then (some (Sum.inr (Sum.inl false))) else (some (Sum.inl (w64 (i_126 + 1))))) else (some (Sum.inr (Sum.inr ())))
def F_law01_sameInts (n : Nat) (a : List Int) (b : List Int) : Option Bool :=
  if ((a.length : Int) != (b.length : Int)) = true then (some false) else ((loopO n (F_law01_sameInts_s1 n a b) 0).bind fun r77 => match r77 with | .inl o => some o | .inr _ => some true)
set_option maxRecDepth 100000 in
set_option maxHeartbeats 40000000 in
theorem c_law01_sameInts (n : Nat) (H : Hp) (a : List Int) (a_v0 : Value) (ha_0 : SL H 1 RInt a_v0 a) (b : List Int) (b_v0 : Value) (hb_0 : SL H 1 RInt b_v0 b) (y : Bool) (hF : F_law01_sameInts n a b = some y) : SC Try.prog 46 [a_v0, b_v0] (.bool y) H := by
  rw [F_law01_sameInts] at hF
  refine SC.of (N := 26) Try.func46 rfl rfl rfl fun w => ?_
  refine JC.seq ?_
  refine JC.region (by rfl) ?_
  intro hQ
  refine JL.assign .none rfl ?_
  refine JL.done hQ ?_
  refine JQ.go ?_
  refine JC.seq ?_
  refine JC.seq ?_
  refine JC.region (by rfl) ?_
  intro hQ
  refine JL.move .none rfl ?_
  refine JL.lenSL (R := RInt) ul_54 ha_0 .none rfl ?_
  refine JL.move .none rfl ?_
  refine JL.lenSL (R := RInt) ul_54 hb_0 .none rfl ?_
  refine JL.bin rfl rfl rfl .none rfl ?_
  refine JL.done hQ ?_
  refine JQ.go ?_
  rcases ite_some hF with ⟨hc1, hF⟩ | ⟨hc1, hF⟩
  · refine JC.cond_t (b := ((a.length : Int) != (b.length : Int))) rfl hc1 ?_
    refine JC.seq ?_
    refine JC.region (by rfl) ?_
    intro hQ
    refine JL.assign .none rfl ?_
    refine JL.done hQ ?_
    refine JQ.go ?_
    refine JC.ret ?_
    refine JQ.ret_then ?_
    obtain rfl := Option.some.inj hF
    exact JQ.outS rfl (.tmp .nil) rfl
  · refine JC.cond_f (b := ((a.length : Int) != (b.length : Int))) rfl hc1 ?_
    refine JC.skip ?_
    refine JQ.go ?_
    refine JC.seq ?_
    refine JC.seq ?_
    refine JC.region (by rfl) ?_
    intro hQ
    refine JL.assign .none rfl ?_
    refine JL.done hQ ?_
    refine JQ.go ?_
    obtain ⟨r77, hlr77, hKr77⟩ := bind_some hF
    refine JC.join (fun (_ : Unit) H76 f bs gs => bs = [] ∧ gs = [] ∧ HSub H H76 ∧ Sum.inr () = r77) ?_ ?_
    · skip
      refine JC.block ?_
      refine JC.loop hlr77 (fun (i_126 : Int) H127 f bs gs => f 0 = a_v0 ∧ f 1 = b_v0 ∧ f 5 = .int .i64 i_126 ∧ bs = [] ∧ gs = [] ∧ HSub H H127) ⟨rfl, rfl, rfl, rfl, rfl, (HSub.refl _)⟩ ?_
      rintro i_126 x129 H127 f bs gs ⟨hf0, hf1, hf5, rfl, rfl, hs127⟩ hF hr128
      rw [F_law01_sameInts_s1] at hF
      refine (JC.norm (i := 0) hf0 (JC.norm (i := 1) hf1 (JC.norm (i := 5) hf5 ?_)))
      refine JC.seq ?_
      refine JC.seq ?_
      refine JC.region (by rfl) ?_
      intro hQ
      refine JL.move .none rfl ?_
      refine JL.move .none rfl ?_
      refine JL.lenSL (R := RInt) ul_54 (SL.mono RInt.mono hs127 ha_0) .none rfl ?_
      refine JL.bin rfl rfl rfl .none rfl ?_
      refine JL.done hQ ?_
      refine JQ.go ?_
      rcases ite_some hF with ⟨hc130, hF⟩ | ⟨hc130, hF⟩
      · refine JC.cond_t (b := decide (i_126 < (a.length : Int))) rfl hc130 ?_
        refine JC.skip ?_
        refine JQ.go ?_
        refine JC.seq ?_
        refine JC.block ?_
        refine JC.seq ?_
        refine JC.draw (by rfl) mo_ (by kernel_rfl) ?_
        intro hQ
        refine JL.move .none rfl ?_
        refine JL.move .none rfl ?_
        obtain ⟨y141, hy141, hF⟩ := bind_some hF
        refine JL.indexSL (R := RInt) sl_54 (SL.mono RInt.mono hs127 ha_0) rfl hy141 .none rfl ?_
        rintro b142 o143 cs144 hc145 - rfl
        refine JL.loadH 0 az_3 rfl hc145 rfl .none rfl ?_
        refine JL.move .none rfl ?_
        refine JL.move .none rfl ?_
        obtain ⟨y146, hy146, hF⟩ := bind_some hF
        refine JL.indexSL (R := RInt) sl_54 (SL.mono RInt.mono hs127 hb_0) rfl hy146 .none rfl ?_
        rintro b147 o148 cs149 hc150 - rfl
        refine JL.loadH 0 az_3 rfl hc150 rfl .none rfl ?_
        refine JL.bin rfl rfl rfl .none rfl ?_
        refine JL.doneQ hQ ?_
        refine JQ.go ?_
        refine JC.fresh (fun f => f 0 = a_v0 ∧ f 1 = b_v0 ∧ f 5 = .int .i64 i_126 ∧ f 25 = .bool (y141 != y146)) ⟨rfl, rfl, rfl, rfl⟩ ?_
        rintro f ⟨hf0, hf1, hf5, hf25⟩
        refine (JC.norm (i := 0) hf0 (JC.norm (i := 1) hf1 (JC.norm (i := 5) hf5 (JC.norm (i := 25) hf25 ?_))))
        rcases ite_some hF with ⟨hc151, hF⟩ | ⟨hc151, hF⟩
        · refine JC.cond_t (b := (y141 != y146)) rfl hc151 ?_
          refine JC.seq ?_
          refine JC.region (by rfl) ?_
          intro hQ
          refine JL.assign .none rfl ?_
          refine JL.done hQ ?_
          refine JQ.go ?_
          refine JC.ret ?_
          refine JQ.ret_block ?_
          refine JQ.ret_then ?_
          refine JQ.ret_then ?_
          refine JQ.ret_block ?_
          refine JQ.ret_join ?_
          refine JQ.ret_then ?_
          obtain rfl := Option.some.inj hF
          have ehr128 := hr128 _ rfl
          subst ehr128
          have hF := hKr77
          try dsimp only at hF
          obtain rfl := Option.some.inj hF
          exact JQ.outS rfl (.tmp .nil) rfl
        · refine JC.cond_f (b := (y141 != y146)) rfl hc151 ?_
          refine JC.skip ?_
          refine JQ.normal_block ?_
          refine JQ.go ?_
          refine JC.region (by rfl) ?_
          intro hQ
          refine JL.move .none rfl ?_
          refine JL.bin rfl rfl rfl .none rfl ?_
          refine JL.assign .none rfl ?_
          refine JL.done hQ ?_
          obtain rfl := Option.some.inj hF
          exact JQ.next rfl ⟨rfl, rfl, rfl, rfl, rfl, hs127⟩
      · refine JC.cond_f (b := decide (i_126 < (a.length : Int))) rfl hc130 ?_
        refine JC.exit ?_
        refine JQ.exit_then ?_
        refine JQ.exit_then ?_
        refine JQ.exit_block ?_
        obtain rfl := Option.some.inj hF
        have ehr128 := hr128 _ rfl
        subst ehr128
        exact JQ.join () ⟨rfl, rfl, hs127, rfl⟩
    · rintro _ H76 f bs gs ⟨rfl, rfl, hs76, rfl⟩
      have hF := hKr77
      try dsimp only at hF
      refine JQ.go ?_
      refine JC.seq ?_
      refine JC.region (by rfl) ?_
      intro hQ
      refine JL.assign .none rfl ?_
      refine JL.done hQ ?_
      refine JQ.go ?_
      refine JC.ret ?_
      obtain rfl := Option.some.inj hF
      exact JQ.outS rfl (.tmp .nil) rfl

-- 10 ferrule/ferrulelaw01.FramesOpens
def F_law01_FramesOpens (n : Nat) (f_ : Frame) (section_ : Int) : Option Bool :=
  (F_law01_Far n f_).bind fun y2 => if y2 = true then ((F_law01_works n).bind fun y4 => some y4) else ((F_ref01_Copy n f_).bind fun y5 => (F_frames_First n y5).bind fun y9 => (F_ref01_First n f_).bind fun y10 => (F_frames_Opens n y5).bind fun y11 => (F_ref01_Opens n f_).bind fun y12 => (F_frames_Turns n y5 section_).bind fun y13 => (F_ref01_Turns n f_ section_).bind fun y14 => (F_frames_Blame n y5).bind fun y15 => (F_ref01_Blame n f_).bind fun y18 => (F_frames_Closes n y5).bind fun y21 => (F_ref01_Closes n f_).bind fun y22 => (if (((((((y9.1 == y10.1) && (y9.2.1 == y10.2.1)) && (y9.2.2 == y10.2.2)) && (y11.1 == y12.1)) && (y11.2 == y12.2)) && (y13.1 == y14.1)) && (y13.2 == y14.2)) = true then ((F_law01_sameInts n y15.1 y18.1).bind fun y39 => some y39) else (some false) : Option Bool).bind fun p36 => (if (((p36 && (y15.2 == y18.2)) && (y21.1 == y22.1)) && (y21.2 == y22.2)) = true then ((F_law01_works n).bind fun y50 => some y50) else (some false) : Option Bool).bind fun p47 => some p47)
set_option maxRecDepth 100000 in
set_option maxHeartbeats 40000000 in
theorem c_law01_FramesOpens (n : Nat) (H : Hp) (f_ : Frame) (f__v0 : Value) (hf__0 : SL H 7 R_Section f__v0 f_.Sections) (section_ : Int) (y : Bool) (hF : F_law01_FramesOpens n f_ section_ = some y) : SC Try.prog 10 [.agg [f__v0, .int .i64 f_.Low, .int .i64 f_.High, .int .i64 f_.Ease.Num, .int .i64 f_.Ease.Den, .int .i64 f_.Rod, .int .i64 f_.Case].toArray, .int .i64 section_] (.bool y) H := by
  rw [F_law01_FramesOpens] at hF
  refine SC.of (N := 143) Try.func10 rfl rfl rfl fun w => ?_
  refine JC.seq ?_
  refine JC.region (by rfl) ?_
  intro hQ
  refine JL.box (cs := [f__v0, .int .i64 f_.Low, .int .i64 f_.High, .int .i64 f_.Ease.Num, .int .i64 f_.Ease.Den, .int .i64 f_.Rod, .int .i64 f_.Case]) rfl .none rfl ?_
  intro b1
  refine JL.assign .none rfl ?_
  refine JL.done hQ ?_
  refine JQ.go ?_
  refine JC.seq ?_
  refine JC.seq ?_
  refine JC.region (by rfl) ?_
  intro hQ
  refine JL.loadOwn 0 az_26 rfl rfl rfl .none rfl ?_
  obtain ⟨y2, hy2, hF⟩ := bind_some hF
  refine JL.callS (c_law01_Far n H f_ f__v0 hf__0 y2 hy2) rfl en_11 .none rfl ?_
  refine JL.done hQ ?_
  refine JQ.go ?_
  rcases ite_some hF with ⟨hc3, hF⟩ | ⟨hc3, hF⟩
  · refine JC.cond_t (b := y2) rfl hc3 ?_
    refine JC.seq ?_
    refine JC.region (by rfl) ?_
    intro hQ
    obtain ⟨y4, hy4, hF⟩ := bind_some hF
    refine JL.callS (c_law01_works n H y4 hy4) rfl en_12 .none rfl ?_
    refine JL.assign .none rfl ?_
    refine JL.done hQ ?_
    refine JQ.go ?_
    refine JC.ret ?_
    refine JQ.ret_then ?_
    obtain rfl := Option.some.inj hF
    exact JQ.outS rfl (.tmp .nil) rfl
  · refine JC.cond_f (b := y2) rfl hc3 ?_
    refine JC.skip ?_
    refine JQ.go ?_
    refine JC.seq ?_
    refine JC.region (by rfl) ?_
    intro hQ
    refine JL.loadOwn 0 az_26 rfl rfl rfl .none rfl ?_
    obtain ⟨y5, hy5, hF⟩ := bind_some hF
    refine JL.callH (c_ref01_Copy n H f_ f__v0 hf__0 y5 hy5) rfl en_13 .none rfl ?_
    rintro H6 vv7 hs6 ⟨y5a_v0, rfl, hy5a_0⟩
    refine JL.alloc ze_26 .none rfl ?_
    intro b8
    refine JL.storeOwn 0 (cs := [y5a_v0, .int .i64 y5.Low, .int .i64 y5.High, .int .i64 y5.Ease.Num, .int .i64 y5.Ease.Den, .int .i64 y5.Rod, .int .i64 y5.Case]) az_26 rfl rfl rfl (one_cons (SL.one hy5a_0) (one_cons rfl (one_cons rfl (one_cons rfl (one_cons rfl (one_cons rfl (one_cons rfl one_nil))))))) rfl rfl .none ?_
    refine JL.done hQ ?_
    refine JQ.go ?_
    refine JC.seq ?_
    refine JC.region (by rfl) ?_
    intro hQ
    refine JL.loadOwn 0 az_26 rfl rfl rfl .none rfl ?_
    obtain ⟨y9, hy9, hF⟩ := bind_some hF
    refine JL.callS (c_frames_First n H6 y5 y5a_v0 hy5a_0 y9 hy9) rfl en_28 .none rfl ?_
    refine JL.move .none rfl ?_
    refine JL.extract rfl rfl .none rfl ?_
    refine JL.extract rfl rfl .none rfl ?_
    refine JL.extract rfl rfl .none rfl ?_
    refine JL.assign .none rfl ?_
    refine JL.assign .none rfl ?_
    refine JL.assign .none rfl ?_
    refine JL.done hQ ?_
    refine JQ.go ?_
    refine JC.fresh (fun f => f 1 = .int .i64 section_ ∧ f 2 = .pointer (some ⟨b1, 0, none⟩) ∧ f 4 = .bool false ∧ f 5 = .pointer (some ⟨b8, 0, none⟩) ∧ f 6 = .int .i64 y9.1 ∧ f 7 = .int .i64 y9.2.1 ∧ f 8 = .int .i64 y9.2.2) ⟨rfl, rfl, rfl, rfl, rfl, rfl, rfl⟩ ?_
    rintro f ⟨hf1, hf2, hf4, hf5, hf6, hf7, hf8⟩
    refine (JC.norm (i := 1) hf1 (JC.norm (i := 2) hf2 (JC.norm (i := 4) hf4 (JC.norm (i := 5) hf5 (JC.norm (i := 6) hf6 (JC.norm (i := 7) hf7 (JC.norm (i := 8) hf8 ?_)))))))
    refine JC.seq ?_
    refine JC.region (by rfl) ?_
    intro hQ
    refine JL.loadOwn 1 az_26 rfl rfl rfl .none rfl ?_
    obtain ⟨y10, hy10, hF⟩ := bind_some hF
    refine JL.callS (c_ref01_First n H6 f_ f__v0 (SL.mono R_Section_mono hs6 hf__0) y10 hy10) rfl en_41 .none rfl ?_
    refine JL.move .none rfl ?_
    refine JL.extract rfl rfl .none rfl ?_
    refine JL.extract rfl rfl .none rfl ?_
    refine JL.extract rfl rfl .none rfl ?_
    refine JL.assign .none rfl ?_
    refine JL.assign .none rfl ?_
    refine JL.assign .none rfl ?_
    refine JL.done hQ ?_
    refine JQ.go ?_
    refine JC.seq ?_
    refine JC.region (by rfl) ?_
    intro hQ
    refine JL.loadOwn 0 az_26 rfl rfl rfl .none rfl ?_
    obtain ⟨y11, hy11, hF⟩ := bind_some hF
    refine JL.callS (c_frames_Opens n H6 y5 y5a_v0 hy5a_0 y11 hy11) rfl en_30 .none rfl ?_
    refine JL.move .none rfl ?_
    refine JL.extract rfl rfl .none rfl ?_
    refine JL.extract rfl rfl .none rfl ?_
    refine JL.assign .none rfl ?_
    refine JL.assign .none rfl ?_
    refine JL.done hQ ?_
    refine JQ.go ?_
    refine JC.fresh (fun f => f 1 = .int .i64 section_ ∧ f 2 = .pointer (some ⟨b1, 0, none⟩) ∧ f 4 = .bool false ∧ f 5 = .pointer (some ⟨b8, 0, none⟩) ∧ f 6 = .int .i64 y9.1 ∧ f 7 = .int .i64 y9.2.1 ∧ f 8 = .int .i64 y9.2.2 ∧ f 9 = .int .i64 y10.1 ∧ f 10 = .int .i64 y10.2.1 ∧ f 11 = .int .i64 y10.2.2 ∧ f 12 = .int .i64 y11.1 ∧ f 13 = .int .i64 y11.2) ⟨rfl, rfl, rfl, rfl, rfl, rfl, rfl, rfl, rfl, rfl, rfl, rfl⟩ ?_
    rintro f ⟨hf1, hf2, hf4, hf5, hf6, hf7, hf8, hf9, hf10, hf11, hf12, hf13⟩
    refine (JC.norm (i := 1) hf1 (JC.norm (i := 2) hf2 (JC.norm (i := 4) hf4 (JC.norm (i := 5) hf5 (JC.norm (i := 6) hf6 (JC.norm (i := 7) hf7 (JC.norm (i := 8) hf8 (JC.norm (i := 9) hf9 (JC.norm (i := 10) hf10 (JC.norm (i := 11) hf11 (JC.norm (i := 12) hf12 (JC.norm (i := 13) hf13 ?_))))))))))))
    refine JC.seq ?_
    refine JC.region (by rfl) ?_
    intro hQ
    refine JL.loadOwn 1 az_26 rfl rfl rfl .none rfl ?_
    obtain ⟨y12, hy12, hF⟩ := bind_some hF
    refine JL.callS (c_ref01_Opens n H6 f_ f__v0 (SL.mono R_Section_mono hs6 hf__0) y12 hy12) rfl en_42 .none rfl ?_
    refine JL.move .none rfl ?_
    refine JL.extract rfl rfl .none rfl ?_
    refine JL.extract rfl rfl .none rfl ?_
    refine JL.assign .none rfl ?_
    refine JL.assign .none rfl ?_
    refine JL.done hQ ?_
    refine JQ.go ?_
    refine JC.seq ?_
    refine JC.region (by rfl) ?_
    intro hQ
    refine JL.loadOwn 0 az_26 rfl rfl rfl .none rfl ?_
    refine JL.move .none rfl ?_
    obtain ⟨y13, hy13, hF⟩ := bind_some hF
    refine JL.callS (c_frames_Turns n H6 y5 y5a_v0 hy5a_0 section_ y13 hy13) rfl en_33 .none rfl ?_
    refine JL.move .none rfl ?_
    refine JL.extract rfl rfl .none rfl ?_
    refine JL.extract rfl rfl .none rfl ?_
    refine JL.assign .none rfl ?_
    refine JL.assign .none rfl ?_
    refine JL.done hQ ?_
    refine JQ.go ?_
    refine JC.fresh (fun f => f 1 = .int .i64 section_ ∧ f 2 = .pointer (some ⟨b1, 0, none⟩) ∧ f 4 = .bool false ∧ f 5 = .pointer (some ⟨b8, 0, none⟩) ∧ f 6 = .int .i64 y9.1 ∧ f 7 = .int .i64 y9.2.1 ∧ f 8 = .int .i64 y9.2.2 ∧ f 9 = .int .i64 y10.1 ∧ f 10 = .int .i64 y10.2.1 ∧ f 11 = .int .i64 y10.2.2 ∧ f 12 = .int .i64 y11.1 ∧ f 13 = .int .i64 y11.2 ∧ f 14 = .int .i64 y12.1 ∧ f 15 = .int .i64 y12.2 ∧ f 16 = .int .i64 y13.1 ∧ f 17 = .int .i64 y13.2) ⟨rfl, rfl, rfl, rfl, rfl, rfl, rfl, rfl, rfl, rfl, rfl, rfl, rfl, rfl, rfl, rfl⟩ ?_
    rintro f ⟨hf1, hf2, hf4, hf5, hf6, hf7, hf8, hf9, hf10, hf11, hf12, hf13, hf14, hf15, hf16, hf17⟩
    refine (JC.norm (i := 1) hf1 (JC.norm (i := 2) hf2 (JC.norm (i := 4) hf4 (JC.norm (i := 5) hf5 (JC.norm (i := 6) hf6 (JC.norm (i := 7) hf7 (JC.norm (i := 8) hf8 (JC.norm (i := 9) hf9 (JC.norm (i := 10) hf10 (JC.norm (i := 11) hf11 (JC.norm (i := 12) hf12 (JC.norm (i := 13) hf13 (JC.norm (i := 14) hf14 (JC.norm (i := 15) hf15 (JC.norm (i := 16) hf16 (JC.norm (i := 17) hf17 ?_))))))))))))))))
    refine JC.seq ?_
    refine JC.region (by rfl) ?_
    intro hQ
    refine JL.loadOwn 1 az_26 rfl rfl rfl .none rfl ?_
    refine JL.move .none rfl ?_
    obtain ⟨y14, hy14, hF⟩ := bind_some hF
    refine JL.callS (c_ref01_Turns n H6 f_ f__v0 (SL.mono R_Section_mono hs6 hf__0) section_ y14 hy14) rfl en_43 .none rfl ?_
    refine JL.move .none rfl ?_
    refine JL.extract rfl rfl .none rfl ?_
    refine JL.extract rfl rfl .none rfl ?_
    refine JL.assign .none rfl ?_
    refine JL.assign .none rfl ?_
    refine JL.done hQ ?_
    refine JQ.go ?_
    refine JC.seq ?_
    refine JC.region (by rfl) ?_
    intro hQ
    refine JL.loadOwn 0 az_26 rfl rfl rfl .none rfl ?_
    obtain ⟨y15, hy15, hF⟩ := bind_some hF
    refine JL.callH (c_frames_Blame n H6 y5 y5a_v0 hy5a_0 y15 hy15) rfl en_32 .none rfl ?_
    rintro H16 vv17 hs16 ⟨y15a_v0, rfl, hy15a_0⟩
    refine JL.move .none rfl ?_
    refine JL.extract rfl rfl .none rfl ?_
    refine JL.extract rfl rfl .none rfl ?_
    refine JL.assign .none rfl ?_
    refine JL.assign .none rfl ?_
    refine JL.done hQ ?_
    refine JQ.go ?_
    refine JC.fresh (fun f => f 2 = .pointer (some ⟨b1, 0, none⟩) ∧ f 4 = .bool false ∧ f 5 = .pointer (some ⟨b8, 0, none⟩) ∧ f 6 = .int .i64 y9.1 ∧ f 7 = .int .i64 y9.2.1 ∧ f 8 = .int .i64 y9.2.2 ∧ f 9 = .int .i64 y10.1 ∧ f 10 = .int .i64 y10.2.1 ∧ f 11 = .int .i64 y10.2.2 ∧ f 12 = .int .i64 y11.1 ∧ f 13 = .int .i64 y11.2 ∧ f 14 = .int .i64 y12.1 ∧ f 15 = .int .i64 y12.2 ∧ f 16 = .int .i64 y13.1 ∧ f 17 = .int .i64 y13.2 ∧ f 18 = .int .i64 y14.1 ∧ f 19 = .int .i64 y14.2 ∧ f 20 = y15a_v0 ∧ f 21 = .int .i64 y15.2) ⟨rfl, rfl, rfl, rfl, rfl, rfl, rfl, rfl, rfl, rfl, rfl, rfl, rfl, rfl, rfl, rfl, rfl, rfl, rfl⟩ ?_
    rintro f ⟨hf2, hf4, hf5, hf6, hf7, hf8, hf9, hf10, hf11, hf12, hf13, hf14, hf15, hf16, hf17, hf18, hf19, hf20, hf21⟩
    refine (JC.norm (i := 2) hf2 (JC.norm (i := 4) hf4 (JC.norm (i := 5) hf5 (JC.norm (i := 6) hf6 (JC.norm (i := 7) hf7 (JC.norm (i := 8) hf8 (JC.norm (i := 9) hf9 (JC.norm (i := 10) hf10 (JC.norm (i := 11) hf11 (JC.norm (i := 12) hf12 (JC.norm (i := 13) hf13 (JC.norm (i := 14) hf14 (JC.norm (i := 15) hf15 (JC.norm (i := 16) hf16 (JC.norm (i := 17) hf17 (JC.norm (i := 18) hf18 (JC.norm (i := 19) hf19 (JC.norm (i := 20) hf20 (JC.norm (i := 21) hf21 ?_)))))))))))))))))))
    refine JC.seq ?_
    refine JC.region (by rfl) ?_
    intro hQ
    refine JL.loadOwn 1 az_26 rfl rfl rfl .none rfl ?_
    obtain ⟨y18, hy18, hF⟩ := bind_some hF
    refine JL.callH (c_ref01_Blame n H16 f_ f__v0 (SL.mono R_Section_mono (HSub.trans hs6 hs16) hf__0) y18 hy18) rfl en_44 .none rfl ?_
    rintro H19 vv20 hs19 ⟨y18a_v0, rfl, hy18a_0⟩
    refine JL.move .none rfl ?_
    refine JL.extract rfl rfl .none rfl ?_
    refine JL.extract rfl rfl .none rfl ?_
    refine JL.assign .none rfl ?_
    refine JL.assign .none rfl ?_
    refine JL.done hQ ?_
    refine JQ.go ?_
    refine JC.seq ?_
    refine JC.region (by rfl) ?_
    intro hQ
    refine JL.loadOwn 0 az_26 rfl rfl rfl .none rfl ?_
    obtain ⟨y21, hy21, hF⟩ := bind_some hF
    refine JL.callS (c_frames_Closes n H19 y5 y5a_v0 (SL.mono R_Section_mono (HSub.trans hs16 hs19) hy5a_0) y21 hy21) rfl en_36 .none rfl ?_
    refine JL.move .none rfl ?_
    refine JL.extract rfl rfl .none rfl ?_
    refine JL.extract rfl rfl .none rfl ?_
    refine JL.assign .none rfl ?_
    refine JL.assign .none rfl ?_
    refine JL.done hQ ?_
    refine JQ.go ?_
    refine JC.fresh (fun f => f 2 = .pointer (some ⟨b1, 0, none⟩) ∧ f 4 = .bool false ∧ f 6 = .int .i64 y9.1 ∧ f 7 = .int .i64 y9.2.1 ∧ f 8 = .int .i64 y9.2.2 ∧ f 9 = .int .i64 y10.1 ∧ f 10 = .int .i64 y10.2.1 ∧ f 11 = .int .i64 y10.2.2 ∧ f 12 = .int .i64 y11.1 ∧ f 13 = .int .i64 y11.2 ∧ f 14 = .int .i64 y12.1 ∧ f 15 = .int .i64 y12.2 ∧ f 16 = .int .i64 y13.1 ∧ f 17 = .int .i64 y13.2 ∧ f 18 = .int .i64 y14.1 ∧ f 19 = .int .i64 y14.2 ∧ f 20 = y15a_v0 ∧ f 21 = .int .i64 y15.2 ∧ f 22 = y18a_v0 ∧ f 23 = .int .i64 y18.2 ∧ f 24 = .int .i64 y21.1 ∧ f 25 = .int .i64 y21.2) ⟨rfl, rfl, rfl, rfl, rfl, rfl, rfl, rfl, rfl, rfl, rfl, rfl, rfl, rfl, rfl, rfl, rfl, rfl, rfl, rfl, rfl, rfl⟩ ?_
    rintro f ⟨hf2, hf4, hf6, hf7, hf8, hf9, hf10, hf11, hf12, hf13, hf14, hf15, hf16, hf17, hf18, hf19, hf20, hf21, hf22, hf23, hf24, hf25⟩
    refine (JC.norm (i := 2) hf2 (JC.norm (i := 4) hf4 (JC.norm (i := 6) hf6 (JC.norm (i := 7) hf7 (JC.norm (i := 8) hf8 (JC.norm (i := 9) hf9 (JC.norm (i := 10) hf10 (JC.norm (i := 11) hf11 (JC.norm (i := 12) hf12 (JC.norm (i := 13) hf13 (JC.norm (i := 14) hf14 (JC.norm (i := 15) hf15 (JC.norm (i := 16) hf16 (JC.norm (i := 17) hf17 (JC.norm (i := 18) hf18 (JC.norm (i := 19) hf19 (JC.norm (i := 20) hf20 (JC.norm (i := 21) hf21 (JC.norm (i := 22) hf22 (JC.norm (i := 23) hf23 (JC.norm (i := 24) hf24 (JC.norm (i := 25) hf25 ?_))))))))))))))))))))))
    refine JC.seq ?_
    refine JC.region (by rfl) ?_
    intro hQ
    refine JL.loadOwn 1 az_26 rfl rfl rfl .none rfl ?_
    obtain ⟨y22, hy22, hF⟩ := bind_some hF
    refine JL.callS (c_ref01_Closes n H19 f_ f__v0 (SL.mono R_Section_mono (HSub.trans hs6 (HSub.trans hs16 hs19)) hf__0) y22 hy22) rfl en_45 .none rfl ?_
    refine JL.move .none rfl ?_
    refine JL.extract rfl rfl .none rfl ?_
    refine JL.extract rfl rfl .none rfl ?_
    refine JL.assign .none rfl ?_
    refine JL.assign .none rfl ?_
    refine JL.done hQ ?_
    refine JQ.go ?_
    refine JC.seq ?_
    refine JC.region (by rfl) ?_
    intro hQ
    refine JL.move .none rfl ?_
    refine JL.move .none rfl ?_
    refine JL.bin rfl rfl rfl .none rfl ?_
    refine JL.move .none rfl ?_
    refine JL.cut 4 (fun f => f 8 = .int .i64 y9.2.2 ∧ f 11 = .int .i64 y10.2.2 ∧ f 12 = .int .i64 y11.1 ∧ f 13 = .int .i64 y11.2 ∧ f 14 = .int .i64 y12.1 ∧ f 15 = .int .i64 y12.2 ∧ f 16 = .int .i64 y13.1 ∧ f 17 = .int .i64 y13.2 ∧ f 18 = .int .i64 y14.1 ∧ f 19 = .int .i64 y14.2 ∧ f 20 = y15a_v0 ∧ f 21 = .int .i64 y15.2 ∧ f 22 = y18a_v0 ∧ f 23 = .int .i64 y18.2 ∧ f 24 = .int .i64 y21.1 ∧ f 25 = .int .i64 y21.2 ∧ f 26 = .int .i64 y22.1 ∧ f 27 = .int .i64 y22.2 ∧ f 94 = .bool ((y9.1 == y10.1) && (y9.2.1 == y10.2.1))) ?_ ?_
    · intro hJ23
      rcases bcases (y9.1 == y10.1) with hc24 | hc24
      · skip
        refine JL.move (.some rfl rfl rfl hc24) rfl ?_
        refine JL.move (.some rfl rfl rfl hc24) rfl ?_
        refine JL.bin rfl rfl rfl (.some rfl rfl rfl hc24) rfl ?_
        refine JL.pick_t (b := (y9.1 == y10.1)) rfl hc24 .none rfl ?_
        exact hJ23 _ ⟨rfl, rfl, rfl, rfl, rfl, rfl, rfl, rfl, rfl, rfl, rfl, rfl, rfl, rfl, rfl, rfl, rfl, rfl, and_t hc24 rfl⟩
      · skip
        refine JL.skip (.bool rfl rfl rfl hc24) rfl ?_
        refine JL.skip (.bool rfl rfl rfl hc24) rfl ?_
        refine JL.skip (.bool rfl rfl rfl hc24) rfl ?_
        refine JL.pick_f (b := (y9.1 == y10.1)) rfl hc24 .none rfl ?_
        exact hJ23 _ ⟨rfl, rfl, rfl, rfl, rfl, rfl, rfl, rfl, rfl, rfl, rfl, rfl, rfl, rfl, rfl, rfl, rfl, rfl, and_f hc24 rfl⟩
    · rintro f ⟨hf8, hf11, hf12, hf13, hf14, hf15, hf16, hf17, hf18, hf19, hf20, hf21, hf22, hf23, hf24, hf25, hf26, hf27, hf94⟩
      refine (JL.norm (i := 8) hf8 (JL.norm (i := 11) hf11 (JL.norm (i := 12) hf12 (JL.norm (i := 13) hf13 (JL.norm (i := 14) hf14 (JL.norm (i := 15) hf15 (JL.norm (i := 16) hf16 (JL.norm (i := 17) hf17 (JL.norm (i := 18) hf18 (JL.norm (i := 19) hf19 (JL.norm (i := 20) hf20 (JL.norm (i := 21) hf21 (JL.norm (i := 22) hf22 (JL.norm (i := 23) hf23 (JL.norm (i := 24) hf24 (JL.norm (i := 25) hf25 (JL.norm (i := 26) hf26 (JL.norm (i := 27) hf27 (JL.norm (i := 94) hf94 ?_)))))))))))))))))))
      refine JL.move .none rfl ?_
      refine JL.cut 4 (fun f => f 12 = .int .i64 y11.1 ∧ f 13 = .int .i64 y11.2 ∧ f 14 = .int .i64 y12.1 ∧ f 15 = .int .i64 y12.2 ∧ f 16 = .int .i64 y13.1 ∧ f 17 = .int .i64 y13.2 ∧ f 18 = .int .i64 y14.1 ∧ f 19 = .int .i64 y14.2 ∧ f 20 = y15a_v0 ∧ f 21 = .int .i64 y15.2 ∧ f 22 = y18a_v0 ∧ f 23 = .int .i64 y18.2 ∧ f 24 = .int .i64 y21.1 ∧ f 25 = .int .i64 y21.2 ∧ f 26 = .int .i64 y22.1 ∧ f 27 = .int .i64 y22.2 ∧ f 99 = .bool (((y9.1 == y10.1) && (y9.2.1 == y10.2.1)) && (y9.2.2 == y10.2.2))) ?_ ?_
      · intro hJ25
        rcases bcases ((y9.1 == y10.1) && (y9.2.1 == y10.2.1)) with hc26 | hc26
        · skip
          refine JL.move (.some rfl rfl rfl hc26) rfl ?_
          refine JL.move (.some rfl rfl rfl hc26) rfl ?_
          refine JL.bin rfl rfl rfl (.some rfl rfl rfl hc26) rfl ?_
          refine JL.pick_t (b := ((y9.1 == y10.1) && (y9.2.1 == y10.2.1))) rfl hc26 .none rfl ?_
          exact hJ25 _ ⟨rfl, rfl, rfl, rfl, rfl, rfl, rfl, rfl, rfl, rfl, rfl, rfl, rfl, rfl, rfl, rfl, and_t hc26 rfl⟩
        · skip
          refine JL.skip (.bool rfl rfl rfl hc26) rfl ?_
          refine JL.skip (.bool rfl rfl rfl hc26) rfl ?_
          refine JL.skip (.bool rfl rfl rfl hc26) rfl ?_
          refine JL.pick_f (b := ((y9.1 == y10.1) && (y9.2.1 == y10.2.1))) rfl hc26 .none rfl ?_
          exact hJ25 _ ⟨rfl, rfl, rfl, rfl, rfl, rfl, rfl, rfl, rfl, rfl, rfl, rfl, rfl, rfl, rfl, rfl, and_f hc26 rfl⟩
      · rintro f ⟨hf12, hf13, hf14, hf15, hf16, hf17, hf18, hf19, hf20, hf21, hf22, hf23, hf24, hf25, hf26, hf27, hf99⟩
        refine (JL.norm (i := 12) hf12 (JL.norm (i := 13) hf13 (JL.norm (i := 14) hf14 (JL.norm (i := 15) hf15 (JL.norm (i := 16) hf16 (JL.norm (i := 17) hf17 (JL.norm (i := 18) hf18 (JL.norm (i := 19) hf19 (JL.norm (i := 20) hf20 (JL.norm (i := 21) hf21 (JL.norm (i := 22) hf22 (JL.norm (i := 23) hf23 (JL.norm (i := 24) hf24 (JL.norm (i := 25) hf25 (JL.norm (i := 26) hf26 (JL.norm (i := 27) hf27 (JL.norm (i := 99) hf99 ?_)))))))))))))))))
        refine JL.move .none rfl ?_
        refine JL.cut 4 (fun f => f 13 = .int .i64 y11.2 ∧ f 15 = .int .i64 y12.2 ∧ f 16 = .int .i64 y13.1 ∧ f 17 = .int .i64 y13.2 ∧ f 18 = .int .i64 y14.1 ∧ f 19 = .int .i64 y14.2 ∧ f 20 = y15a_v0 ∧ f 21 = .int .i64 y15.2 ∧ f 22 = y18a_v0 ∧ f 23 = .int .i64 y18.2 ∧ f 24 = .int .i64 y21.1 ∧ f 25 = .int .i64 y21.2 ∧ f 26 = .int .i64 y22.1 ∧ f 27 = .int .i64 y22.2 ∧ f 104 = .bool ((((y9.1 == y10.1) && (y9.2.1 == y10.2.1)) && (y9.2.2 == y10.2.2)) && (y11.1 == y12.1))) ?_ ?_
        · intro hJ27
          rcases bcases (((y9.1 == y10.1) && (y9.2.1 == y10.2.1)) && (y9.2.2 == y10.2.2)) with hc28 | hc28
          · skip
            refine JL.move (.some rfl rfl rfl hc28) rfl ?_
            refine JL.move (.some rfl rfl rfl hc28) rfl ?_
            refine JL.bin rfl rfl rfl (.some rfl rfl rfl hc28) rfl ?_
            refine JL.pick_t (b := (((y9.1 == y10.1) && (y9.2.1 == y10.2.1)) && (y9.2.2 == y10.2.2))) rfl hc28 .none rfl ?_
            exact hJ27 _ ⟨rfl, rfl, rfl, rfl, rfl, rfl, rfl, rfl, rfl, rfl, rfl, rfl, rfl, rfl, and_t hc28 rfl⟩
          · skip
            refine JL.skip (.bool rfl rfl rfl hc28) rfl ?_
            refine JL.skip (.bool rfl rfl rfl hc28) rfl ?_
            refine JL.skip (.bool rfl rfl rfl hc28) rfl ?_
            refine JL.pick_f (b := (((y9.1 == y10.1) && (y9.2.1 == y10.2.1)) && (y9.2.2 == y10.2.2))) rfl hc28 .none rfl ?_
            exact hJ27 _ ⟨rfl, rfl, rfl, rfl, rfl, rfl, rfl, rfl, rfl, rfl, rfl, rfl, rfl, rfl, and_f hc28 rfl⟩
        · rintro f ⟨hf13, hf15, hf16, hf17, hf18, hf19, hf20, hf21, hf22, hf23, hf24, hf25, hf26, hf27, hf104⟩
          refine (JL.norm (i := 13) hf13 (JL.norm (i := 15) hf15 (JL.norm (i := 16) hf16 (JL.norm (i := 17) hf17 (JL.norm (i := 18) hf18 (JL.norm (i := 19) hf19 (JL.norm (i := 20) hf20 (JL.norm (i := 21) hf21 (JL.norm (i := 22) hf22 (JL.norm (i := 23) hf23 (JL.norm (i := 24) hf24 (JL.norm (i := 25) hf25 (JL.norm (i := 26) hf26 (JL.norm (i := 27) hf27 (JL.norm (i := 104) hf104 ?_)))))))))))))))
          refine JL.move .none rfl ?_
          refine JL.cut 4 (fun f => f 16 = .int .i64 y13.1 ∧ f 17 = .int .i64 y13.2 ∧ f 18 = .int .i64 y14.1 ∧ f 19 = .int .i64 y14.2 ∧ f 20 = y15a_v0 ∧ f 21 = .int .i64 y15.2 ∧ f 22 = y18a_v0 ∧ f 23 = .int .i64 y18.2 ∧ f 24 = .int .i64 y21.1 ∧ f 25 = .int .i64 y21.2 ∧ f 26 = .int .i64 y22.1 ∧ f 27 = .int .i64 y22.2 ∧ f 109 = .bool (((((y9.1 == y10.1) && (y9.2.1 == y10.2.1)) && (y9.2.2 == y10.2.2)) && (y11.1 == y12.1)) && (y11.2 == y12.2))) ?_ ?_
          · intro hJ29
            rcases bcases ((((y9.1 == y10.1) && (y9.2.1 == y10.2.1)) && (y9.2.2 == y10.2.2)) && (y11.1 == y12.1)) with hc30 | hc30
            · skip
              refine JL.move (.some rfl rfl rfl hc30) rfl ?_
              refine JL.move (.some rfl rfl rfl hc30) rfl ?_
              refine JL.bin rfl rfl rfl (.some rfl rfl rfl hc30) rfl ?_
              refine JL.pick_t (b := ((((y9.1 == y10.1) && (y9.2.1 == y10.2.1)) && (y9.2.2 == y10.2.2)) && (y11.1 == y12.1))) rfl hc30 .none rfl ?_
              exact hJ29 _ ⟨rfl, rfl, rfl, rfl, rfl, rfl, rfl, rfl, rfl, rfl, rfl, rfl, and_t hc30 rfl⟩
            · skip
              refine JL.skip (.bool rfl rfl rfl hc30) rfl ?_
              refine JL.skip (.bool rfl rfl rfl hc30) rfl ?_
              refine JL.skip (.bool rfl rfl rfl hc30) rfl ?_
              refine JL.pick_f (b := ((((y9.1 == y10.1) && (y9.2.1 == y10.2.1)) && (y9.2.2 == y10.2.2)) && (y11.1 == y12.1))) rfl hc30 .none rfl ?_
              exact hJ29 _ ⟨rfl, rfl, rfl, rfl, rfl, rfl, rfl, rfl, rfl, rfl, rfl, rfl, and_f hc30 rfl⟩
          · rintro f ⟨hf16, hf17, hf18, hf19, hf20, hf21, hf22, hf23, hf24, hf25, hf26, hf27, hf109⟩
            refine (JL.norm (i := 16) hf16 (JL.norm (i := 17) hf17 (JL.norm (i := 18) hf18 (JL.norm (i := 19) hf19 (JL.norm (i := 20) hf20 (JL.norm (i := 21) hf21 (JL.norm (i := 22) hf22 (JL.norm (i := 23) hf23 (JL.norm (i := 24) hf24 (JL.norm (i := 25) hf25 (JL.norm (i := 26) hf26 (JL.norm (i := 27) hf27 (JL.norm (i := 109) hf109 ?_)))))))))))))
            refine JL.move .none rfl ?_
            refine JL.cut 4 (fun f => f 17 = .int .i64 y13.2 ∧ f 19 = .int .i64 y14.2 ∧ f 20 = y15a_v0 ∧ f 21 = .int .i64 y15.2 ∧ f 22 = y18a_v0 ∧ f 23 = .int .i64 y18.2 ∧ f 24 = .int .i64 y21.1 ∧ f 25 = .int .i64 y21.2 ∧ f 26 = .int .i64 y22.1 ∧ f 27 = .int .i64 y22.2 ∧ f 114 = .bool ((((((y9.1 == y10.1) && (y9.2.1 == y10.2.1)) && (y9.2.2 == y10.2.2)) && (y11.1 == y12.1)) && (y11.2 == y12.2)) && (y13.1 == y14.1))) ?_ ?_
            · intro hJ31
              rcases bcases (((((y9.1 == y10.1) && (y9.2.1 == y10.2.1)) && (y9.2.2 == y10.2.2)) && (y11.1 == y12.1)) && (y11.2 == y12.2)) with hc32 | hc32
              · skip
                refine JL.move (.some rfl rfl rfl hc32) rfl ?_
                refine JL.move (.some rfl rfl rfl hc32) rfl ?_
                refine JL.bin rfl rfl rfl (.some rfl rfl rfl hc32) rfl ?_
                refine JL.pick_t (b := (((((y9.1 == y10.1) && (y9.2.1 == y10.2.1)) && (y9.2.2 == y10.2.2)) && (y11.1 == y12.1)) && (y11.2 == y12.2))) rfl hc32 .none rfl ?_
                exact hJ31 _ ⟨rfl, rfl, rfl, rfl, rfl, rfl, rfl, rfl, rfl, rfl, and_t hc32 rfl⟩
              · skip
                refine JL.skip (.bool rfl rfl rfl hc32) rfl ?_
                refine JL.skip (.bool rfl rfl rfl hc32) rfl ?_
                refine JL.skip (.bool rfl rfl rfl hc32) rfl ?_
                refine JL.pick_f (b := (((((y9.1 == y10.1) && (y9.2.1 == y10.2.1)) && (y9.2.2 == y10.2.2)) && (y11.1 == y12.1)) && (y11.2 == y12.2))) rfl hc32 .none rfl ?_
                exact hJ31 _ ⟨rfl, rfl, rfl, rfl, rfl, rfl, rfl, rfl, rfl, rfl, and_f hc32 rfl⟩
            · rintro f ⟨hf17, hf19, hf20, hf21, hf22, hf23, hf24, hf25, hf26, hf27, hf114⟩
              refine (JL.norm (i := 17) hf17 (JL.norm (i := 19) hf19 (JL.norm (i := 20) hf20 (JL.norm (i := 21) hf21 (JL.norm (i := 22) hf22 (JL.norm (i := 23) hf23 (JL.norm (i := 24) hf24 (JL.norm (i := 25) hf25 (JL.norm (i := 26) hf26 (JL.norm (i := 27) hf27 (JL.norm (i := 114) hf114 ?_)))))))))))
              refine JL.move .none rfl ?_
              refine JL.cut 4 (fun f => f 20 = y15a_v0 ∧ f 21 = .int .i64 y15.2 ∧ f 22 = y18a_v0 ∧ f 23 = .int .i64 y18.2 ∧ f 24 = .int .i64 y21.1 ∧ f 25 = .int .i64 y21.2 ∧ f 26 = .int .i64 y22.1 ∧ f 27 = .int .i64 y22.2 ∧ f 119 = .bool (((((((y9.1 == y10.1) && (y9.2.1 == y10.2.1)) && (y9.2.2 == y10.2.2)) && (y11.1 == y12.1)) && (y11.2 == y12.2)) && (y13.1 == y14.1)) && (y13.2 == y14.2))) ?_ ?_
              · intro hJ33
                rcases bcases ((((((y9.1 == y10.1) && (y9.2.1 == y10.2.1)) && (y9.2.2 == y10.2.2)) && (y11.1 == y12.1)) && (y11.2 == y12.2)) && (y13.1 == y14.1)) with hc34 | hc34
                · skip
                  refine JL.move (.some rfl rfl rfl hc34) rfl ?_
                  refine JL.move (.some rfl rfl rfl hc34) rfl ?_
                  refine JL.bin rfl rfl rfl (.some rfl rfl rfl hc34) rfl ?_
                  refine JL.pick_t (b := ((((((y9.1 == y10.1) && (y9.2.1 == y10.2.1)) && (y9.2.2 == y10.2.2)) && (y11.1 == y12.1)) && (y11.2 == y12.2)) && (y13.1 == y14.1))) rfl hc34 .none rfl ?_
                  exact hJ33 _ ⟨rfl, rfl, rfl, rfl, rfl, rfl, rfl, rfl, and_t hc34 rfl⟩
                · skip
                  refine JL.skip (.bool rfl rfl rfl hc34) rfl ?_
                  refine JL.skip (.bool rfl rfl rfl hc34) rfl ?_
                  refine JL.skip (.bool rfl rfl rfl hc34) rfl ?_
                  refine JL.pick_f (b := ((((((y9.1 == y10.1) && (y9.2.1 == y10.2.1)) && (y9.2.2 == y10.2.2)) && (y11.1 == y12.1)) && (y11.2 == y12.2)) && (y13.1 == y14.1))) rfl hc34 .none rfl ?_
                  exact hJ33 _ ⟨rfl, rfl, rfl, rfl, rfl, rfl, rfl, rfl, and_f hc34 rfl⟩
              · rintro f ⟨hf20, hf21, hf22, hf23, hf24, hf25, hf26, hf27, hf119⟩
                refine (JL.norm (i := 20) hf20 (JL.norm (i := 21) hf21 (JL.norm (i := 22) hf22 (JL.norm (i := 23) hf23 (JL.norm (i := 24) hf24 (JL.norm (i := 25) hf25 (JL.norm (i := 26) hf26 (JL.norm (i := 27) hf27 (JL.norm (i := 119) hf119 ?_)))))))))
                refine JL.move .none rfl ?_
                obtain ⟨p36, hp36, hF⟩ := bind_some hF
                refine JL.cut 4 (fun f => f 21 = .int .i64 y15.2 ∧ f 23 = .int .i64 y18.2 ∧ f 24 = .int .i64 y21.1 ∧ f 25 = .int .i64 y21.2 ∧ f 26 = .int .i64 y22.1 ∧ f 27 = .int .i64 y22.2 ∧ f 124 = .bool p36) ?_ ?_
                · intro hJ37
                  rcases ite_some hp36 with ⟨hc38, hF⟩ | ⟨hc38, hF⟩
                  · skip
                    refine JL.move (.some rfl rfl rfl hc38) rfl ?_
                    refine JL.move (.some rfl rfl rfl hc38) rfl ?_
                    obtain ⟨y39, hy39, hF⟩ := bind_some hF
                    refine JL.callS (c_law01_sameInts n H19 y15.1 y15a_v0 (SL.mono RInt.mono hs19 hy15a_0) y18.1 y18a_v0 hy18a_0 y39 hy39) rfl en_46 (.some rfl rfl rfl hc38) rfl ?_
                    refine JL.pick_t (b := (((((((y9.1 == y10.1) && (y9.2.1 == y10.2.1)) && (y9.2.2 == y10.2.2)) && (y11.1 == y12.1)) && (y11.2 == y12.2)) && (y13.1 == y14.1)) && (y13.2 == y14.2))) rfl hc38 .none rfl ?_
                    obtain rfl := Option.some.inj hF
                    exact hJ37 _ ⟨rfl, rfl, rfl, rfl, rfl, rfl, rfl⟩
                  · skip
                    refine JL.skip (.bool rfl rfl rfl hc38) rfl ?_
                    refine JL.skip (.bool rfl rfl rfl hc38) rfl ?_
                    refine JL.skip (.bool rfl rfl rfl hc38) rfl ?_
                    refine JL.pick_f (b := (((((((y9.1 == y10.1) && (y9.2.1 == y10.2.1)) && (y9.2.2 == y10.2.2)) && (y11.1 == y12.1)) && (y11.2 == y12.2)) && (y13.1 == y14.1)) && (y13.2 == y14.2))) rfl hc38 .none rfl ?_
                    obtain rfl := Option.some.inj hF
                    exact hJ37 _ ⟨rfl, rfl, rfl, rfl, rfl, rfl, rfl⟩
                · rintro f ⟨hf21, hf23, hf24, hf25, hf26, hf27, hf124⟩
                  refine (JL.norm (i := 21) hf21 (JL.norm (i := 23) hf23 (JL.norm (i := 24) hf24 (JL.norm (i := 25) hf25 (JL.norm (i := 26) hf26 (JL.norm (i := 27) hf27 (JL.norm (i := 124) hf124 ?_)))))))
                  refine JL.move .none rfl ?_
                  refine JL.cut 4 (fun f => f 24 = .int .i64 y21.1 ∧ f 25 = .int .i64 y21.2 ∧ f 26 = .int .i64 y22.1 ∧ f 27 = .int .i64 y22.2 ∧ f 129 = .bool (p36 && (y15.2 == y18.2))) ?_ ?_
                  · intro hJ40
                    rcases bcases p36 with hc41 | hc41
                    · skip
                      refine JL.move (.some rfl rfl rfl hc41) rfl ?_
                      refine JL.move (.some rfl rfl rfl hc41) rfl ?_
                      refine JL.bin rfl rfl rfl (.some rfl rfl rfl hc41) rfl ?_
                      refine JL.pick_t (b := p36) rfl hc41 .none rfl ?_
                      exact hJ40 _ ⟨rfl, rfl, rfl, rfl, and_t hc41 rfl⟩
                    · skip
                      refine JL.skip (.bool rfl rfl rfl hc41) rfl ?_
                      refine JL.skip (.bool rfl rfl rfl hc41) rfl ?_
                      refine JL.skip (.bool rfl rfl rfl hc41) rfl ?_
                      refine JL.pick_f (b := p36) rfl hc41 .none rfl ?_
                      exact hJ40 _ ⟨rfl, rfl, rfl, rfl, and_f hc41 rfl⟩
                  · rintro f ⟨hf24, hf25, hf26, hf27, hf129⟩
                    refine (JL.norm (i := 24) hf24 (JL.norm (i := 25) hf25 (JL.norm (i := 26) hf26 (JL.norm (i := 27) hf27 (JL.norm (i := 129) hf129 ?_)))))
                    refine JL.move .none rfl ?_
                    refine JL.cut 4 (fun f => f 25 = .int .i64 y21.2 ∧ f 27 = .int .i64 y22.2 ∧ f 134 = .bool ((p36 && (y15.2 == y18.2)) && (y21.1 == y22.1))) ?_ ?_
                    · intro hJ42
                      rcases bcases (p36 && (y15.2 == y18.2)) with hc43 | hc43
                      · skip
                        refine JL.move (.some rfl rfl rfl hc43) rfl ?_
                        refine JL.move (.some rfl rfl rfl hc43) rfl ?_
                        refine JL.bin rfl rfl rfl (.some rfl rfl rfl hc43) rfl ?_
                        refine JL.pick_t (b := (p36 && (y15.2 == y18.2))) rfl hc43 .none rfl ?_
                        exact hJ42 _ ⟨rfl, rfl, and_t hc43 rfl⟩
                      · skip
                        refine JL.skip (.bool rfl rfl rfl hc43) rfl ?_
                        refine JL.skip (.bool rfl rfl rfl hc43) rfl ?_
                        refine JL.skip (.bool rfl rfl rfl hc43) rfl ?_
                        refine JL.pick_f (b := (p36 && (y15.2 == y18.2))) rfl hc43 .none rfl ?_
                        exact hJ42 _ ⟨rfl, rfl, and_f hc43 rfl⟩
                    · rintro f ⟨hf25, hf27, hf134⟩
                      refine (JL.norm (i := 25) hf25 (JL.norm (i := 27) hf27 (JL.norm (i := 134) hf134 ?_)))
                      refine JL.move .none rfl ?_
                      refine JL.cut 4 (fun f => f 139 = .bool (((p36 && (y15.2 == y18.2)) && (y21.1 == y22.1)) && (y21.2 == y22.2))) ?_ ?_
                      · intro hJ44
                        rcases bcases ((p36 && (y15.2 == y18.2)) && (y21.1 == y22.1)) with hc45 | hc45
                        · skip
                          refine JL.move (.some rfl rfl rfl hc45) rfl ?_
                          refine JL.move (.some rfl rfl rfl hc45) rfl ?_
                          refine JL.bin rfl rfl rfl (.some rfl rfl rfl hc45) rfl ?_
                          refine JL.pick_t (b := ((p36 && (y15.2 == y18.2)) && (y21.1 == y22.1))) rfl hc45 .none rfl ?_
                          exact hJ44 _ (and_t hc45 rfl)
                        · skip
                          refine JL.skip (.bool rfl rfl rfl hc45) rfl ?_
                          refine JL.skip (.bool rfl rfl rfl hc45) rfl ?_
                          refine JL.skip (.bool rfl rfl rfl hc45) rfl ?_
                          refine JL.pick_f (b := ((p36 && (y15.2 == y18.2)) && (y21.1 == y22.1))) rfl hc45 .none rfl ?_
                          exact hJ44 _ (and_f hc45 rfl)
                      · rintro f hf139
                        refine (JL.norm (i := 139) hf139 ?_)
                        refine JL.move .none rfl ?_
                        obtain ⟨p47, hp47, hF⟩ := bind_some hF
                        refine JL.cut 2 (fun f => f 142 = .bool p47) ?_ ?_
                        · intro hJ48
                          rcases ite_some hp47 with ⟨hc49, hF⟩ | ⟨hc49, hF⟩
                          · skip
                            obtain ⟨y50, hy50, hF⟩ := bind_some hF
                            refine JL.callS (c_law01_works n H19 y50 hy50) rfl en_12 (.some rfl rfl rfl hc49) rfl ?_
                            refine JL.pick_t (b := (((p36 && (y15.2 == y18.2)) && (y21.1 == y22.1)) && (y21.2 == y22.2))) rfl hc49 .none rfl ?_
                            obtain rfl := Option.some.inj hF
                            exact hJ48 _ (rfl)
                          · skip
                            refine JL.skip (.bool rfl rfl rfl hc49) rfl ?_
                            refine JL.pick_f (b := (((p36 && (y15.2 == y18.2)) && (y21.1 == y22.1)) && (y21.2 == y22.2))) rfl hc49 .none rfl ?_
                            obtain rfl := Option.some.inj hF
                            exact hJ48 _ (rfl)
                        · rintro f hf142
                          refine (JL.norm (i := 142) hf142 ?_)
                          refine JL.assign .none rfl ?_
                          refine JL.done hQ ?_
                          refine JQ.go ?_
                          refine JC.ret ?_
                          obtain rfl := Option.some.inj hF
                          exact JQ.outS rfl (.tmp .nil) rfl

end Go.Proofs.Ytmgnhaibbeinbaa
