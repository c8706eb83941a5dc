/-
  Printed by a program: functions of the translation as plain functions, and their contracts.
-/
import Derived.Test.YtmgnhaibbeinbaaGenK3
namespace Go.Proofs.Ytmgnhaibbeinbaa
open Go Go.RowKit Go.Dec
set_option linter.unusedVariables false
-- 25 ferrule/ferruleref01.Pairs
def F_ref01_Pairs_s2 (n : Nat) (y2 : Section) (a_411 : Int) : Int × List ref01_Pair → Option ((Int × List ref01_Pair) ⊕ (List ref01_Pair))
  | (b_467, out_468) => if decide (b_467 ≤ y2.Stretch.High) = true then ((lim (out_468 ++ [(ref01_Pair.mk a_411 b_467)])).bind fun l474 => some (Sum.inl ((w64 (b_467 + 1)), l474))) else (some (Sum.inr out_468))
def F_ref01_Pairs_s1 (n : Nat) (y2 : Section) : Int × List ref01_Pair → Option ((Int × List ref01_Pair) ⊕ (List ref01_Pair))
  | (a_411, out_412) => if decide (a_411 ≤ y2.Arm.High) = true then ((loopO n (F_ref01_Pairs_s2 n y2 a_411) (y2.Stretch.Low, out_412)).bind fun out_446 => some (Sum.inl ((w64 (a_411 + 1)), out_446))) else (some (Sum.inr out_412))
def F_ref01_Pairs (n : Nat) (f_ : Frame) (section_ : Int) : Option (List ref01_Pair) :=
  (geti f_.Sections section_).bind fun y2 => (loopO n (F_ref01_Pairs_s1 n y2) (y2.Arm.Low, ([] : List ref01_Pair))).bind fun out_278 => some out_278
set_option maxRecDepth 100000 in
set_option maxHeartbeats 40000000 in
theorem c_ref01_Pairs (n : Nat) (H : Hp) (f_ : Frame) (f__v0 : Value) (hf__0 : SL H 7 R_Section f__v0 f_.Sections) (section_ : Int) (y : (List ref01_Pair)) (hF : F_ref01_Pairs n f_ section_ = some y) : HC Try.prog 25 [.agg [f__v0, .int .i64 f_.Low, .int .i64 f_.High, .int .i64 f_.Ease.Num, .int .i64 f_.Ease.Den, .int .i64 f_.Rod, .int .i64 f_.Case].toArray, .int .i64 section_] H (fun H' ra_v0 => SL H' 2 R_ref01_Pair ra_v0 y) := by
  rw [F_ref01_Pairs] at hF
  refine HC.of (N := 41) Try.func25 rfl rfl rfl fun w => ?_
  refine JC.seq ?_
  refine JC.region (by rfl) ?_
  intro hQ
  refine JL.box (cs := [f__v0, .int .i64 f_.Low, .int .i64 f_.High, .int .i64 f_.Ease.Num, .int .i64 f_.Ease.Den, .int .i64 f_.Rod, .int .i64 f_.Case]) rfl .none rfl ?_
  intro b1
  refine JL.assign .none rfl ?_
  refine JL.done hQ ?_
  refine JQ.go ?_
  refine JC.seq ?_
  refine JC.region (by rfl) ?_
  intro hQ
  refine JL.fieldAddr fo_26_0 rfl .none rfl ?_
  refine JL.loadOwn 0 az_22 rfl rfl rfl .none rfl ?_
  refine JL.move .none rfl ?_
  obtain ⟨y2, hy2, hF⟩ := bind_some hF
  refine JL.indexSL (R := R_Section) sl_22 hf__0 rfl hy2 .none rfl ?_
  rintro b3 o4 cs5 hc6 - rfl
  refine JL.loadH 0 az_61 rfl hc6 rfl .none rfl ?_
  refine JL.alloc ze_61 .none rfl ?_
  intro b7
  refine JL.storeOwn 0 (cs := [.int .i64 y2.Arm.Low, .int .i64 y2.Arm.High, .int .i64 y2.Stretch.Low, .int .i64 y2.Stretch.High, .int .i64 y2.Base, .int .i64 y2.Gear.Num, .int .i64 y2.Gear.Den]) az_61 rfl rfl rfl (one_cons rfl (one_cons rfl (one_cons rfl (one_cons rfl (one_cons rfl (one_cons rfl (one_cons rfl one_nil))))))) rfl rfl .none ?_
  refine JL.done hQ ?_
  refine JQ.go ?_
  refine JC.seq ?_
  refine JC.region (by rfl) ?_
  intro hQ
  refine JL.assign .none rfl ?_
  refine JL.done hQ ?_
  refine JQ.go ?_
  refine JC.seq ?_
  refine JC.seq ?_
  refine JC.region (by rfl) ?_
  intro hQ
  refine JL.fieldAddr fo_61_0 rfl .none rfl ?_
  refine JL.fieldAddr fo_59_0 rfl .none rfl ?_
  refine JL.loadOwn 0 az_3 rfl rfl rfl .none rfl ?_
  refine JL.assign .none rfl ?_
  refine JL.done hQ ?_
  refine JQ.go ?_
  refine JC.fresh (fun f => f 4 = .slice none 0 0 ∧ f 5 = .pointer (some ⟨b7, 0, none⟩) ∧ f 6 = .slice none 0 0 ∧ f 7 = .int .i64 y2.Arm.Low) ⟨rfl, rfl, rfl, rfl⟩ ?_
  rintro f ⟨hf4, hf5, hf6, hf7⟩
  refine (JC.norm (i := 4) hf4 (JC.norm (i := 5) hf5 (JC.norm (i := 6) hf6 (JC.norm (i := 7) hf7 ?_))))
  refine JC.newNil (e := 45) (sz := 2) ?_
  obtain ⟨r280, hlr280, hKr280⟩ := bind_some hF
  refine JC.join (fun (out_278 : List ref01_Pair) H279 f bs gs => ∃ (vout_278 : Value) (xsout_278 : List Value), f 6 = vout_278 ∧ bs = [] ∧ gs = [⟨vout_278, 45, 2, out_278.length, xsout_278⟩] ∧ CH H279 2 R_ref01_Pair xsout_278 out_278 ∧ HSub H H279 ∧ out_278 = r280) ?_ ?_
  · skip
    refine JC.block ?_
    refine JC.mask [true, false] [true] ?_
    refine JC.loop hlr280 (fun (x : Int × List ref01_Pair) H413 f bs gs => match x with | (a_411, out_412) => ∃ (vout_412 : Value) (xsout_412 : List Value), f 5 = .pointer (some ⟨b7, 0, none⟩) ∧ f 6 = vout_412 ∧ f 7 = .int .i64 a_411 ∧ bs = [(b7, .cells [.int .i64 y2.Arm.Low, .int .i64 y2.Arm.High, .int .i64 y2.Stretch.Low, .int .i64 y2.Stretch.High, .int .i64 y2.Base, .int .i64 y2.Gear.Num, .int .i64 y2.Gear.Den].toArray 61)] ∧ gs = [⟨vout_412, 45, 2, out_412.length, xsout_412⟩] ∧ CH H413 2 R_ref01_Pair xsout_412 out_412 ∧ HSub H H413) ⟨(.slice none 0 0), [], rfl, rfl, rfl, rfl, rfl, CH.nil, (HSub.refl _)⟩ ?_
    rintro ⟨a_411, out_412⟩ x415 H413 f bs gs ⟨vout_412, xsout_412, hf5, hf6, hf7, rfl, rfl, hout_412, hs413⟩ hF hr414
    rw [F_ref01_Pairs_s1] at hF
    refine (JC.norm (i := 5) hf5 (JC.norm (i := 6) hf6 (JC.norm (i := 7) hf7 ?_)))
    refine JC.seq ?_
    refine JC.seq ?_
    refine JC.region (by rfl) ?_
    intro hQ
    refine JL.move .none rfl ?_
    refine JL.fieldAddr fo_61_0 rfl .none rfl ?_
    refine JL.fieldAddr fo_59_1 rfl .none rfl ?_
    refine JL.loadOwn 0 az_3 rfl rfl rfl .none rfl ?_
    refine JL.bin rfl rfl rfl .none rfl ?_
    refine JL.done hQ ?_
    refine JQ.go ?_
    rcases ite_some hF with ⟨hc416, hF⟩ | ⟨hc416, hF⟩
    · refine JC.cond_t (b := decide (a_411 ≤ y2.Arm.High)) rfl hc416 ?_
      refine JC.skip ?_
      refine JQ.go ?_
      refine JC.seq ?_
      refine JC.block ?_
      refine JC.seq ?_
      refine JC.region (by rfl) ?_
      intro hQ
      refine JL.fieldAddr fo_61_1 rfl .none rfl ?_
      refine JL.fieldAddr fo_59_0 rfl .none rfl ?_
      refine JL.loadOwn 0 az_3 rfl rfl rfl .none rfl ?_
      refine JL.assign .none rfl ?_
      refine JL.done hQ ?_
      refine JQ.go ?_
      obtain ⟨r448, hlr448, hKr448⟩ := bind_some hF
      refine JC.join (fun (out_446 : List ref01_Pair) H447 f bs gs => ∃ (vout_446 : Value) (xsout_446 : List Value), f 5 = .pointer (some ⟨b7, 0, none⟩) ∧ f 6 = vout_446 ∧ f 7 = .int .i64 a_411 ∧ bs = [(b7, .cells [.int .i64 y2.Arm.Low, .int .i64 y2.Arm.High, .int .i64 y2.Stretch.Low, .int .i64 y2.Stretch.High, .int .i64 y2.Base, .int .i64 y2.Gear.Num, .int .i64 y2.Gear.Den].toArray 61)] ∧ gs = [⟨vout_446, 45, 2, out_446.length, xsout_446⟩] ∧ CH H447 2 R_ref01_Pair xsout_446 out_446 ∧ HSub H413 H447 ∧ out_446 = r448) ?_ ?_
      · skip
        refine JC.block ?_
        refine JC.loop hlr448 (fun (x : Int × List ref01_Pair) H469 f bs gs => match x with | (b_467, out_468) => ∃ (vout_468 : Value) (xsout_468 : List Value), f 5 = .pointer (some ⟨b7, 0, none⟩) ∧ f 6 = vout_468 ∧ f 7 = .int .i64 a_411 ∧ f 8 = .int .i64 b_467 ∧ bs = [(b7, .cells [.int .i64 y2.Arm.Low, .int .i64 y2.Arm.High, .int .i64 y2.Stretch.Low, .int .i64 y2.Stretch.High, .int .i64 y2.Base, .int .i64 y2.Gear.Num, .int .i64 y2.Gear.Den].toArray 61)] ∧ gs = [⟨vout_468, 45, 2, out_468.length, xsout_468⟩] ∧ CH H469 2 R_ref01_Pair xsout_468 out_468 ∧ HSub H413 H469) ⟨vout_412, xsout_412, rfl, rfl, rfl, rfl, rfl, rfl, hout_412, (HSub.refl _)⟩ ?_
        rintro ⟨b_467, out_468⟩ x471 H469 f bs gs ⟨vout_468, xsout_468, hf5, hf6, hf7, hf8, rfl, rfl, hout_468, hs469⟩ hF hr470
        rw [F_ref01_Pairs_s2] at hF
        refine (JC.norm (i := 5) hf5 (JC.norm (i := 6) hf6 (JC.norm (i := 7) hf7 (JC.norm (i := 8) hf8 ?_))))
        refine JC.seq ?_
        refine JC.seq ?_
        refine JC.region (by rfl) ?_
        intro hQ
        refine JL.move .none rfl ?_
        refine JL.fieldAddr fo_61_1 rfl .none rfl ?_
        refine JL.fieldAddr fo_59_1 rfl .none rfl ?_
        refine JL.loadOwn 0 az_3 rfl rfl rfl .none rfl ?_
        refine JL.bin rfl rfl rfl .none rfl ?_
        refine JL.done hQ ?_
        refine JQ.go ?_
        rcases ite_some hF with ⟨hc472, hF⟩ | ⟨hc472, hF⟩
        · refine JC.cond_t (b := decide (b_467 ≤ y2.Stretch.High)) rfl hc472 ?_
          refine JC.skip ?_
          refine JQ.go ?_
          refine JC.seq ?_
          refine JC.block ?_
          refine JC.region (by rfl) ?_
          intro hQ
          refine JL.move .none rfl ?_
          refine JL.move .none rfl ?_
          refine JL.move .none rfl ?_
          refine JL.build (l := [.int .i64 a_411, .int .i64 b_467]) (by kernel_rfl) .none rfl ?_
          refine JL.buildSlice (e := 45) (l := [.int .i64 a_411, .int .i64 b_467]) (by kernel_rfl) .none rfl ?_
          intro b473
          obtain ⟨l474, hl474, hF⟩ := bind_some hF
          refine JL.appO (R := R_ref01_Pair) 0 0 (l := out_468) (m := [(ref01_Pair.mk a_411 b_467)]) ap_40 rfl ⟨rfl, rfl⟩ rfl hout_468 rfl rfl rfl (CH.cons (cs := [.int .i64 a_411, .int .i64 b_467]) rfl rfl CH.nil) rfl (one_cons rfl (one_cons rfl one_nil)) hl474 .none rfl ?_
          intro v475 xs476 hch477
          refine JL.assign .none rfl ?_
          refine JL.done hQ ?_
          refine JQ.normal_block ?_
          refine JQ.go ?_
          refine JC.fresh (fun f => f 5 = .pointer (some ⟨b7, 0, none⟩) ∧ f 6 = v475 ∧ f 7 = .int .i64 a_411 ∧ f 8 = .int .i64 b_467) ⟨rfl, rfl, rfl, rfl⟩ ?_
          rintro f ⟨hf5, hf6, hf7, hf8⟩
          refine (JC.norm (i := 5) hf5 (JC.norm (i := 6) hf6 (JC.norm (i := 7) hf7 (JC.norm (i := 8) hf8 ?_))))
          refine JC.region (by rfl) ?_
          intro hQ
          refine JL.move .none rfl ?_
          refine JL.bin rfl rfl rfl .none rfl ?_
          refine JL.assign .none rfl ?_
          refine JL.done hQ ?_
          obtain rfl := Option.some.inj hF
          refine JQ.mask [false, true] [true] ?_
          exact JQ.next rfl ⟨v475, xs476, rfl, rfl, rfl, rfl, rfl, rfl, hch477, hs469⟩
        · refine JC.cond_f (b := decide (b_467 ≤ y2.Stretch.High)) rfl hc472 ?_
          refine JC.exit ?_
          refine JQ.exit_then ?_
          refine JQ.exit_then ?_
          refine JQ.exit_block ?_
          obtain rfl := Option.some.inj hF
          have ehr470 := hr470 _ rfl
          subst ehr470
          exact JQ.join out_468 ⟨vout_468, xsout_468, rfl, rfl, rfl, rfl, rfl, hout_468, hs469, rfl⟩
      · rintro out_446 H447 f bs gs ⟨vout_446, xsout_446, hf5, hf6, hf7, rfl, rfl, hout_446, hs447, rfl⟩
        have hF := hKr448
        try dsimp only at hF
        refine (JQ.norm (i := 5) hf5 (JQ.norm (i := 6) hf6 (JQ.norm (i := 7) hf7 ?_)))
        refine JQ.normal_block ?_
        refine JQ.go ?_
        refine JC.region (by rfl) ?_
        intro hQ
        refine JL.move .none rfl ?_
        refine JL.bin rfl rfl rfl .none rfl ?_
        refine JL.assign .none rfl ?_
        refine JL.done hQ ?_
        obtain rfl := Option.some.inj hF
        exact JQ.next rfl ⟨vout_446, xsout_446, rfl, rfl, rfl, rfl, rfl, hout_446, (HSub.trans hs413 hs447)⟩
    · refine JC.cond_f (b := decide (a_411 ≤ y2.Arm.High)) rfl hc416 ?_
      refine JC.exit ?_
      refine JQ.exit_then ?_
      refine JQ.exit_then ?_
      refine JQ.exit_block ?_
      obtain rfl := Option.some.inj hF
      have ehr414 := hr414 _ rfl
      subst ehr414
      refine JQ.mask [false] [true] ?_
      exact JQ.join out_412 ⟨vout_412, xsout_412, rfl, rfl, rfl, hout_412, hs413, rfl⟩
  · rintro out_278 H279 f bs gs ⟨vout_278, xsout_278, hf6, rfl, rfl, hout_278, hs279, rfl⟩
    have hF := hKr280
    try dsimp only at hF
    refine (JQ.norm (i := 6) hf6 ?_)
    refine JQ.go ?_
    refine JC.seq ?_
    refine JC.region (by rfl) ?_
    intro hQ
    refine JL.move .none rfl ?_
    refine JL.assign .none rfl ?_
    refine JL.done hQ ?_
    refine JQ.go ?_
    refine JC.ret ?_
    refine JQ.freezeG 0 (R := R_ref01_Pair) rfl R_ref01_Pair_mono hout_278 rfl ?_
    intro H478 hs478 hg479
    obtain rfl := Option.some.inj hF
    exact JQ.outH rfl (.tmp .nil) hg479

-- 68 ferrule/ferruleref01.Reduced
def F_ref01_Reduced_s1 (n : Nat)  : Int × Int → Option ((Int × Int) ⊕ Int)
  | (a_37, b_38) => if (b_38 != 0) = true then ((nz b_38).bind fun _ => some (Sum.inl (b_38, (a_37.tmod b_38)))) else (some (Sum.inr a_37))
def F_ref01_Reduced (n : Nat) (num : Int) (den : Int) : Option Frac :=
  (loopO n (F_ref01_Reduced_s1 n) ((max num (w64 (-num))), den)).bind fun a_22 => (nz a_22).bind fun _ => (nz a_22).bind fun _ => some (Frac.mk (w64 (num.tdiv a_22)) (w64 (den.tdiv a_22)))
set_option maxRecDepth 100000 in
set_option maxHeartbeats 40000000 in
theorem c_ref01_Reduced (n : Nat) (H : Hp) (num : Int) (den : Int) (y : Frac) (hF : F_ref01_Reduced n num den = some y) : SC Try.prog 68 [.int .i64 num, .int .i64 den] (.agg [.int .i64 y.Num, .int .i64 y.Den].toArray) H := by
  rw [F_ref01_Reduced] at hF
  refine SC.of (N := 25) Try.func68 rfl rfl rfl fun w => ?_
  refine JC.seq ?_
  refine JC.region (by rfl) ?_
  intro hQ
  refine JL.alloc ze_24 .none rfl ?_
  intro b1
  refine JL.done hQ ?_
  refine JQ.go ?_
  refine JC.seq ?_
  refine JC.region (by rfl) ?_
  intro hQ
  refine JL.move .none rfl ?_
  refine JL.move .none rfl ?_
  refine JL.neg rfl .none rfl ?_
  refine JL.max rfl rfl .none rfl ?_
  refine JL.move .none rfl ?_
  refine JL.assign .none rfl ?_
  refine JL.assign .none rfl ?_
  refine JL.done hQ ?_
  refine JQ.go ?_
  refine JC.seq ?_
  obtain ⟨r24, hlr24, hKr24⟩ := bind_some hF
  refine JC.join (fun (a_22 : Int) H23 f bs gs => f 0 = .int .i64 num ∧ f 1 = .int .i64 den ∧ f 4 = .pointer (some ⟨b1, 0, none⟩) ∧ f 5 = .int .i64 a_22 ∧ bs = [(b1, .cells [.int .i64 0, .int .i64 0].toArray 24)] ∧ gs = [] ∧ HSub H H23 ∧ a_22 = r24) ?_ ?_
  · skip
    refine JC.block ?_
    refine JC.loop hlr24 (fun (x : Int × Int) H39 f bs gs => match x with | (a_37, b_38) => f 0 = .int .i64 num ∧ f 1 = .int .i64 den ∧ f 4 = .pointer (some ⟨b1, 0, none⟩) ∧ f 5 = .int .i64 a_37 ∧ f 6 = .int .i64 b_38 ∧ bs = [(b1, .cells [.int .i64 0, .int .i64 0].toArray 24)] ∧ gs = [] ∧ HSub H H39) ⟨rfl, rfl, rfl, rfl, rfl, rfl, rfl, (HSub.refl _)⟩ ?_
    rintro ⟨a_37, b_38⟩ x41 H39 f bs gs ⟨hf0, hf1, hf4, hf5, hf6, rfl, rfl, hs39⟩ hF hr40
    rw [F_ref01_Reduced_s1] at hF
    refine (JC.norm (i := 0) hf0 (JC.norm (i := 1) hf1 (JC.norm (i := 4) hf4 (JC.norm (i := 5) hf5 (JC.norm (i := 6) hf6 ?_)))))
    refine JC.seq ?_
    refine JC.seq ?_
    refine JC.region (by rfl) ?_
    intro hQ
    refine JL.move .none rfl ?_
    refine JL.bin rfl rfl rfl .none rfl ?_
    refine JL.done hQ ?_
    refine JQ.go ?_
    rcases ite_some hF with ⟨hc42, hF⟩ | ⟨hc42, hF⟩
    · refine JC.cond_t (b := (b_38 != 0)) rfl hc42 ?_
      refine JC.skip ?_
      refine JQ.go ?_
      refine JC.block ?_
      refine JC.draw (by rfl) mo_ (by kernel_rfl) ?_
      intro hQ
      refine JL.move .none rfl ?_
      refine JL.move .none rfl ?_
      refine JL.move .none rfl ?_
      obtain ⟨u44, hu44, hF⟩ := bind_some hF
      refine JL.div rfl rfl (nz_some hu44) rfl .none rfl ?_
      refine JL.assign .none rfl ?_
      refine JL.assign .none rfl ?_
      refine JL.doneQ hQ ?_
      refine JQ.normal_block ?_
      obtain rfl := Option.some.inj hF
      exact JQ.next rfl ⟨rfl, rfl, rfl, rfl, rfl, rfl, rfl, hs39⟩
    · refine JC.cond_f (b := (b_38 != 0)) rfl hc42 ?_
      refine JC.exit ?_
      refine JQ.exit_then ?_
      refine JQ.exit_then ?_
      refine JQ.exit_block ?_
      obtain rfl := Option.some.inj hF
      have ehr40 := hr40 _ rfl
      subst ehr40
      exact JQ.join a_37 ⟨rfl, rfl, rfl, rfl, rfl, rfl, hs39, rfl⟩
  · rintro a_22 H23 f bs gs ⟨hf0, hf1, hf4, hf5, rfl, rfl, hs23, rfl⟩
    have hF := hKr24
    try dsimp only at hF
    refine (JQ.norm (i := 0) hf0 (JQ.norm (i := 1) hf1 (JQ.norm (i := 4) hf4 (JQ.norm (i := 5) hf5 ?_))))
    refine JQ.go ?_
    refine JC.seq ?_
    obtain ⟨u47, hu47, hF⟩ := bind_some hF
    obtain ⟨u48, hu48, hF⟩ := bind_some hF
    refine JC.mixed 7 8 #[false, false, false, false, false, false, false, false] [(b1, .cells [.int .i64 0, .int .i64 0].toArray 24)] (by rfl) mo_ (by kernel_rfl) (by kernel_rfl) ?_
    intro hQ hE
    refine JA.take 0 (listed' := #[true, false, false, false, false, false, false, false]) hQ rfl (by kernel_rfl) (by kernel_rfl) (by kernel_rfl) (by kernel_rfl) (by kernel_rfl) hE (HSub.refl _) (.cons_cons _ (List.nil_sublist _)) ?_
    refine JL.move .none rfl ?_
    refine JA.cont ?_
    refine JA.take 1 (listed' := #[true, true, false, false, false, false, false, false]) hQ rfl (by kernel_rfl) (by kernel_rfl) (by kernel_rfl) (by kernel_rfl) (by kernel_rfl) hE (HSub.refl _) (.cons_cons _ (List.nil_sublist _)) ?_
    refine JL.move .none rfl ?_
    refine JA.cont ?_
    refine JA.take 2 (listed' := #[true, true, true, false, false, false, false, false]) hQ rfl (by kernel_rfl) (by kernel_rfl) (by kernel_rfl) (by kernel_rfl) (by kernel_rfl) hE (HSub.refl _) (.cons_cons _ (List.nil_sublist _)) ?_
    refine JL.div rfl rfl (nz_some hu47) rfl .none rfl ?_
    refine JA.cont ?_
    refine JA.take 3 (listed' := #[true, true, true, true, false, false, false, false]) hQ rfl (by kernel_rfl) (by kernel_rfl) (by kernel_rfl) (by kernel_rfl) (by kernel_rfl) hE (HSub.refl _) (.cons_cons _ (List.nil_sublist _)) ?_
    refine JL.move .none rfl ?_
    refine JA.cont ?_
    refine JA.take 4 (listed' := #[true, true, true, true, true, false, false, false]) hQ rfl (by kernel_rfl) (by kernel_rfl) (by kernel_rfl) (by kernel_rfl) (by kernel_rfl) hE (HSub.refl _) (.cons_cons _ (List.nil_sublist _)) ?_
    refine JL.move .none rfl ?_
    refine JA.cont ?_
    refine JA.take 5 (listed' := #[true, true, true, true, true, true, false, false]) hQ rfl (by kernel_rfl) (by kernel_rfl) (by kernel_rfl) (by kernel_rfl) (by kernel_rfl) hE (HSub.refl _) (.cons_cons _ (List.nil_sublist _)) ?_
    refine JL.div rfl rfl (nz_some hu48) rfl .none rfl ?_
    refine JA.cont ?_
    refine JA.take 6 (listed' := #[true, true, true, true, true, true, true, false]) hQ rfl (by kernel_rfl) (by kernel_rfl) (by kernel_rfl) (by kernel_rfl) (by kernel_rfl) hE (HSub.refl _) (.cons_cons _ (List.nil_sublist _)) ?_
    refine JL.build (l := [.int .i64 (w64 (num.tdiv a_22)), .int .i64 (w64 (den.tdiv a_22))]) (by kernel_rfl) .none rfl ?_
    refine JA.cont ?_
    refine JA.many [7] (by kernel_rfl) (by simp) (all_one ⟨_, #[true, true, true, true, true, true, true, true], rfl, (by kernel_rfl), ?_⟩)
    refine JL.storeOwn 0 (cs := [.int .i64 (w64 (num.tdiv a_22)), .int .i64 (w64 (den.tdiv a_22))]) az_24 rfl rfl rfl (one_cons rfl (one_cons rfl one_nil)) rfl rfl .none ?_
    refine JA.sink (by kernel_rfl) ?_
    refine JA.done hQ (by kernel_rfl) ?_
    refine JQ.go ?_
    refine JC.ret ?_
    obtain rfl := Option.some.inj hF
    exact JQ.outS rfl (.cell 0 az_24 rfl rfl rfl .nil) rfl

-- 26 ferrule/ferruleref01.CosineOf
def F_ref01_CosineOf (n : Nat) (d : Int) (p : ref01_Pair) : Option (Frac × Bool) :=
  if (d == 0) = true then (some ((Frac.mk 0 0), false)) else ((F_ref01_Reduced n (w64 ((w64 ((w64 (d * d)) + (w64 (p.Arm * p.Arm)))) - (w64 (p.Stretch * p.Stretch)))) (w64 ((w64 (2 * d)) * p.Arm))).bind fun y4 => some (y4, true))
set_option maxRecDepth 100000 in
set_option maxHeartbeats 40000000 in
theorem c_ref01_CosineOf (n : Nat) (H : Hp) (d : Int) (p : ref01_Pair) (y : Frac × Bool) (hF : F_ref01_CosineOf n d p = some y) : SC Try.prog 26 [.int .i64 d, .agg [.int .i64 p.Arm, .int .i64 p.Stretch].toArray] (.tuple [.agg [.int .i64 y.1.Num, .int .i64 y.1.Den].toArray, .bool y.2].toArray) H := by
  rw [F_ref01_CosineOf] at hF
  refine SC.of (N := 30) Try.func26 rfl rfl rfl fun w => ?_
  refine JC.seq ?_
  refine JC.region (by rfl) ?_
  intro hQ
  refine JL.box (cs := [.int .i64 p.Arm, .int .i64 p.Stretch]) rfl .none rfl ?_
  intro b1
  refine JL.alloc ze_24 .none rfl ?_
  intro b2
  refine JL.assign .none rfl ?_
  refine JL.done hQ ?_
  refine JQ.go ?_
  refine JC.seq ?_
  refine JC.seq ?_
  refine JC.region (by rfl) ?_
  intro hQ
  refine JL.move .none rfl ?_
  refine JL.bin rfl rfl rfl .none rfl ?_
  refine JL.done hQ ?_
  refine JQ.go ?_
  rcases ite_some hF with ⟨hc3, hF⟩ | ⟨hc3, hF⟩
  · refine JC.cond_t (b := (d == 0)) rfl hc3 ?_
    refine JC.seq ?_
    refine JC.region (by rfl) ?_
    intro hQ
    refine JL.build (l := [.int .i64 0, .int .i64 0]) (by kernel_rfl) .none rfl ?_
    refine JL.storeOwn 0 (cs := [.int .i64 0, .int .i64 0]) az_24 rfl rfl rfl (one_cons rfl (one_cons rfl one_nil)) rfl rfl .none ?_
    refine JL.assign .none rfl ?_
    refine JL.done hQ ?_
    refine JQ.go ?_
    refine JC.ret ?_
    refine JQ.ret_then ?_
    obtain rfl := Option.some.inj hF
    exact JQ.outS rfl (.cell 0 az_24 rfl rfl rfl (.tmp .nil)) rfl
  · refine JC.cond_f (b := (d == 0)) rfl hc3 ?_
    refine JC.skip ?_
    refine JQ.go ?_
    refine JC.seq ?_
    refine JC.region (by rfl) ?_
    intro hQ
    refine JL.move .none rfl ?_
    refine JL.move .none rfl ?_
    refine JL.bin rfl rfl rfl .none rfl ?_
    refine JL.fieldAddr fo_45_0 rfl .none rfl ?_
    refine JL.loadOwn 1 az_3 rfl rfl rfl .none rfl ?_
    refine JL.fieldAddr fo_45_0 rfl .none rfl ?_
    refine JL.loadOwn 1 az_3 rfl rfl rfl .none rfl ?_
    refine JL.bin rfl rfl rfl .none rfl ?_
    refine JL.bin rfl rfl rfl .none rfl ?_
    refine JL.fieldAddr fo_45_1 rfl .none rfl ?_
    refine JL.loadOwn 1 az_3 rfl rfl rfl .none rfl ?_
    refine JL.fieldAddr fo_45_1 rfl .none rfl ?_
    refine JL.loadOwn 1 az_3 rfl rfl rfl .none rfl ?_
    refine JL.bin rfl rfl rfl .none rfl ?_
    refine JL.bin rfl rfl rfl .none rfl ?_
    refine JL.move .none rfl ?_
    refine JL.bin rfl rfl rfl .none rfl ?_
    refine JL.fieldAddr fo_45_0 rfl .none rfl ?_
    refine JL.loadOwn 1 az_3 rfl rfl rfl .none rfl ?_
    refine JL.bin rfl rfl rfl .none rfl ?_
    obtain ⟨y4, hy4, hF⟩ := bind_some hF
    refine JL.callS (c_ref01_Reduced n H (w64 ((w64 ((w64 (d * d)) + (w64 (p.Arm * p.Arm)))) - (w64 (p.Stretch * p.Stretch)))) (w64 ((w64 (2 * d)) * p.Arm)) y4 hy4) rfl en_68 .none rfl ?_
    refine JL.storeOwn 0 (cs := [.int .i64 y4.Num, .int .i64 y4.Den]) az_24 rfl rfl rfl (one_cons rfl (one_cons rfl one_nil)) rfl rfl .none ?_
    refine JL.assign .none rfl ?_
    refine JL.done hQ ?_
    refine JQ.go ?_
    refine JC.fresh (fun f => f 4 = .pointer (some ⟨b2, 0, none⟩) ∧ f 5 = .bool true) ⟨rfl, rfl⟩ ?_
    rintro f ⟨hf4, hf5⟩
    refine (JC.norm (i := 4) hf4 (JC.norm (i := 5) hf5 ?_))
    refine JC.ret ?_
    obtain rfl := Option.some.inj hF
    exact JQ.outS rfl (.cell 0 az_24 rfl rfl rfl (.tmp .nil)) rfl

-- 29 ferrule/ferruleref01.Less
def F_ref01_Less (n : Nat) (a : Frac) (b : Frac) : Option Bool :=
  some (decide ((w64 (a.Num * b.Den)) < (w64 (b.Num * a.Den))))
set_option maxRecDepth 100000 in
set_option maxHeartbeats 40000000 in
theorem c_ref01_Less (n : Nat) (H : Hp) (a : Frac) (b : Frac) (y : Bool) (hF : F_ref01_Less n a b = some y) : SC Try.prog 29 [.agg [.int .i64 a.Num, .int .i64 a.Den].toArray, .agg [.int .i64 b.Num, .int .i64 b.Den].toArray] (.bool y) H := by
  rw [F_ref01_Less] at hF
  refine SC.of (N := 16) Try.func29 rfl rfl rfl fun w => ?_
  refine JC.seq ?_
  refine JC.region (by rfl) ?_
  intro hQ
  refine JL.box (cs := [.int .i64 a.Num, .int .i64 a.Den]) rfl .none rfl ?_
  intro b1
  refine JL.box (cs := [.int .i64 b.Num, .int .i64 b.Den]) rfl .none rfl ?_
  intro b2
  refine JL.assign .none rfl ?_
  refine JL.done hQ ?_
  refine JQ.go ?_
  refine JC.seq ?_
  refine JC.region (by rfl) ?_
  intro hQ
  refine JL.fieldAddr fo_24_0 rfl .none rfl ?_
  refine JL.loadOwn 1 az_3 rfl rfl rfl .none rfl ?_
  refine JL.fieldAddr fo_24_1 rfl .none rfl ?_
  refine JL.loadOwn 0 az_3 rfl rfl rfl .none rfl ?_
  refine JL.bin rfl rfl rfl .none rfl ?_
  refine JL.fieldAddr fo_24_0 rfl .none rfl ?_
  refine JL.loadOwn 0 az_3 rfl rfl rfl .none rfl ?_
  refine JL.fieldAddr fo_24_1 rfl .none rfl ?_
  refine JL.loadOwn 1 az_3 rfl rfl rfl .none rfl ?_
  refine JL.bin rfl rfl rfl .none rfl ?_
  refine JL.bin rfl rfl rfl .none rfl ?_
  refine JL.assign .none rfl ?_
  refine JL.done hQ ?_
  refine JQ.go ?_
  refine JC.fresh (fun f => f 4 = .bool (decide ((w64 (a.Num * b.Den)) < (w64 (b.Num * a.Den))))) rfl ?_
  rintro f hf4
  refine (JC.norm (i := 4) hf4 ?_)
  refine JC.ret ?_
  obtain rfl := Option.some.inj hF
  exact JQ.outS rfl (.tmp .nil) rfl

end Go.Proofs.Ytmgnhaibbeinbaa
