/-
  Printed by a program: functions of the translation as plain functions, and their contracts.
-/
import Derived.Test.YtcpnnfdhafbemaaGenK7
namespace Go.Proofs.Ytcpnnfdhafbemaa
open Go Go.RowKit Go.Dec
set_option linter.unusedVariables false
-- 84 ferrule/ferruleref01.Pairs
def F_ref01_Pairs_s2 (n : Nat) (y2 : Section) (a_411 : Int) : Int × List ref01_Pair → Option ((Int × List ref01_Pair) ⊕ (List ref01_Pair))
  | (b_467, out_468) => if decide (b_467 ≤ y2.Stretch.High) = true then ((lim (out_468 ++ [(ref01_Pair.mk a_411 b_467)])).bind fun l474 => some (Sum.inl ((w64 (b_467 + 1)), l474))) else (some (Sum.inr out_468))
def F_ref01_Pairs_s1 (n : Nat) (y2 : Section) : Int × List ref01_Pair → Option ((Int × List ref01_Pair) ⊕ (List ref01_Pair))
  | (a_411, out_412) => if decide (a_411 ≤ y2.Arm.High) = true then ((loopO n (F_ref01_Pairs_s2 n y2 a_411) (y2.Stretch.Low, out_412)).bind fun out_446 => some (Sum.inl ((w64 (a_411 + 1)), out_446))) else (some (Sum.inr out_412))
def F_ref01_Pairs (n : Nat) (f_ : Frame) (section_ : Int) : Option (List ref01_Pair) :=
  (geti f_.Sections section_).bind fun y2 => (loopO n (F_ref01_Pairs_s1 n y2) (y2.Arm.Low, ([] : List ref01_Pair))).bind fun out_278 => some out_278
set_option maxRecDepth 100000 in
set_option maxHeartbeats 40000000 in
theorem c_ref01_Pairs (n : Nat) (H : Hp) (f_ : Frame) (f__v0 : Value) (hf__0 : SL H 7 R_Section f__v0 f_.Sections) (section_ : Int) (y : (List ref01_Pair)) (hF : F_ref01_Pairs n f_ section_ = some y) : HC Try.prog 84 [.agg [f__v0, .int .i64 f_.Low, .int .i64 f_.High, .int .i64 f_.Ease.Num, .int .i64 f_.Ease.Den, .int .i64 f_.Rod, .int .i64 f_.Case].toArray, .int .i64 section_] H (fun H' ra_v0 => SL H' 2 R_ref01_Pair ra_v0 y) := by
  rw [F_ref01_Pairs] at hF
  refine HC.of (N := 41) Try.func84 rfl rfl rfl fun w => ?_
  refine JC.seq ?_
  refine JC.region (by rfl) ?_
  intro hQ
  refine JL.box (cs := [f__v0, .int .i64 f_.Low, .int .i64 f_.High, .int .i64 f_.Ease.Num, .int .i64 f_.Ease.Den, .int .i64 f_.Rod, .int .i64 f_.Case]) rfl .none rfl ?_
  intro b1
  refine JL.assign .none rfl ?_
  refine JL.done hQ ?_
  refine JQ.go ?_
  refine JC.seq ?_
  refine JC.region (by rfl) ?_
  intro hQ
  refine JL.fieldAddr fo_26_0 rfl .none rfl ?_
  refine JL.loadOwn 0 az_22 rfl rfl rfl .none rfl ?_
  refine JL.move .none rfl ?_
  obtain ⟨y2, hy2, hF⟩ := bind_some hF
  refine JL.indexSL (R := R_Section) sl_22 hf__0 rfl hy2 .none rfl ?_
  rintro b3 o4 cs5 hc6 - rfl
  refine JL.loadH 0 az_118 rfl hc6 rfl .none rfl ?_
  refine JL.alloc ze_118 .none rfl ?_
  intro b7
  refine JL.storeOwn 0 (cs := [.int .i64 y2.Arm.Low, .int .i64 y2.Arm.High, .int .i64 y2.Stretch.Low, .int .i64 y2.Stretch.High, .int .i64 y2.Base, .int .i64 y2.Gear.Num, .int .i64 y2.Gear.Den]) az_118 rfl rfl rfl (one_cons rfl (one_cons rfl (one_cons rfl (one_cons rfl (one_cons rfl (one_cons rfl (one_cons rfl one_nil))))))) rfl rfl .none ?_
  refine JL.done hQ ?_
  refine JQ.go ?_
  refine JC.seq ?_
  refine JC.region (by rfl) ?_
  intro hQ
  refine JL.assign .none rfl ?_
  refine JL.done hQ ?_
  refine JQ.go ?_
  refine JC.seq ?_
  refine JC.seq ?_
  refine JC.region (by rfl) ?_
  intro hQ
  refine JL.fieldAddr fo_118_0 rfl .none rfl ?_
  refine JL.fieldAddr fo_38_0 rfl .none rfl ?_
  refine JL.loadOwn 0 az_3 rfl rfl rfl .none rfl ?_
  refine JL.assign .none rfl ?_
  refine JL.done hQ ?_
  refine JQ.go ?_
  refine JC.fresh (fun f => f 4 = .slice none 0 0 ∧ f 5 = .pointer (some ⟨b7, 0, none⟩) ∧ f 6 = .slice none 0 0 ∧ f 7 = .int .i64 y2.Arm.Low) ⟨rfl, rfl, rfl, rfl⟩ ?_
  rintro f ⟨hf4, hf5, hf6, hf7⟩
  refine (JC.norm (i := 4) hf4 (JC.norm (i := 5) hf5 (JC.norm (i := 6) hf6 (JC.norm (i := 7) hf7 ?_))))
  refine JC.newNil (e := 72) (sz := 2) ?_
  obtain ⟨r280, hlr280, hKr280⟩ := bind_some hF
  refine JC.join (fun (out_278 : List ref01_Pair) H279 f bs gs => ∃ (vout_278 : Value) (xsout_278 : List Value), f 6 = vout_278 ∧ bs = [] ∧ gs = [⟨vout_278, 72, 2, out_278.length, xsout_278⟩] ∧ CH H279 2 R_ref01_Pair xsout_278 out_278 ∧ HSub H H279 ∧ out_278 = r280) ?_ ?_
  · skip
    refine JC.block ?_
    refine JC.mask [true, false] [true] ?_
    refine JC.loop hlr280 (fun (x : Int × List ref01_Pair) H413 f bs gs => match x with | (a_411, out_412) => ∃ (vout_412 : Value) (xsout_412 : List Value), f 5 = .pointer (some ⟨b7, 0, none⟩) ∧ f 6 = vout_412 ∧ f 7 = .int .i64 a_411 ∧ bs = [(b7, .cells [.int .i64 y2.Arm.Low, .int .i64 y2.Arm.High, .int .i64 y2.Stretch.Low, .int .i64 y2.Stretch.High, .int .i64 y2.Base, .int .i64 y2.Gear.Num, .int .i64 y2.Gear.Den].toArray 118)] ∧ gs = [⟨vout_412, 72, 2, out_412.length, xsout_412⟩] ∧ CH H413 2 R_ref01_Pair xsout_412 out_412 ∧ HSub H H413) ⟨(.slice none 0 0), [], rfl, rfl, rfl, rfl, rfl, CH.nil, (HSub.refl _)⟩ ?_
    rintro ⟨a_411, out_412⟩ x415 H413 f bs gs ⟨vout_412, xsout_412, hf5, hf6, hf7, rfl, rfl, hout_412, hs413⟩ hF hr414
    rw [F_ref01_Pairs_s1] at hF
    refine (JC.norm (i := 5) hf5 (JC.norm (i := 6) hf6 (JC.norm (i := 7) hf7 ?_)))
    refine JC.seq ?_
    refine JC.seq ?_
    refine JC.region (by rfl) ?_
    intro hQ
    refine JL.move .none rfl ?_
    refine JL.fieldAddr fo_118_0 rfl .none rfl ?_
    refine JL.fieldAddr fo_38_1 rfl .none rfl ?_
    refine JL.loadOwn 0 az_3 rfl rfl rfl .none rfl ?_
    refine JL.bin rfl rfl rfl .none rfl ?_
    refine JL.done hQ ?_
    refine JQ.go ?_
    rcases ite_some hF with ⟨hc416, hF⟩ | ⟨hc416, hF⟩
    · refine JC.cond_t (b := decide (a_411 ≤ y2.Arm.High)) rfl hc416 ?_
      refine JC.skip ?_
      refine JQ.go ?_
      refine JC.seq ?_
      refine JC.block ?_
      refine JC.seq ?_
      refine JC.region (by rfl) ?_
      intro hQ
      refine JL.fieldAddr fo_118_1 rfl .none rfl ?_
      refine JL.fieldAddr fo_38_0 rfl .none rfl ?_
      refine JL.loadOwn 0 az_3 rfl rfl rfl .none rfl ?_
      refine JL.assign .none rfl ?_
      refine JL.done hQ ?_
      refine JQ.go ?_
      obtain ⟨r448, hlr448, hKr448⟩ := bind_some hF
      refine JC.join (fun (out_446 : List ref01_Pair) H447 f bs gs => ∃ (vout_446 : Value) (xsout_446 : List Value), f 5 = .pointer (some ⟨b7, 0, none⟩) ∧ f 6 = vout_446 ∧ f 7 = .int .i64 a_411 ∧ bs = [(b7, .cells [.int .i64 y2.Arm.Low, .int .i64 y2.Arm.High, .int .i64 y2.Stretch.Low, .int .i64 y2.Stretch.High, .int .i64 y2.Base, .int .i64 y2.Gear.Num, .int .i64 y2.Gear.Den].toArray 118)] ∧ gs = [⟨vout_446, 72, 2, out_446.length, xsout_446⟩] ∧ CH H447 2 R_ref01_Pair xsout_446 out_446 ∧ HSub H413 H447 ∧ out_446 = r448) ?_ ?_
      · skip
        refine JC.block ?_
        refine JC.loop hlr448 (fun (x : Int × List ref01_Pair) H469 f bs gs => match x with | (b_467, out_468) => ∃ (vout_468 : Value) (xsout_468 : List Value), f 5 = .pointer (some ⟨b7, 0, none⟩) ∧ f 6 = vout_468 ∧ f 7 = .int .i64 a_411 ∧ f 8 = .int .i64 b_467 ∧ bs = [(b7, .cells [.int .i64 y2.Arm.Low, .int .i64 y2.Arm.High, .int .i64 y2.Stretch.Low, .int .i64 y2.Stretch.High, .int .i64 y2.Base, .int .i64 y2.Gear.Num, .int .i64 y2.Gear.Den].toArray 118)] ∧ gs = [⟨vout_468, 72, 2, out_468.length, xsout_468⟩] ∧ CH H469 2 R_ref01_Pair xsout_468 out_468 ∧ HSub H413 H469) ⟨vout_412, xsout_412, rfl, rfl, rfl, rfl, rfl, rfl, hout_412, (HSub.refl _)⟩ ?_
        rintro ⟨b_467, out_468⟩ x471 H469 f bs gs ⟨vout_468, xsout_468, hf5, hf6, hf7, hf8, rfl, rfl, hout_468, hs469⟩ hF hr470
        rw [F_ref01_Pairs_s2] at hF
        refine (JC.norm (i := 5) hf5 (JC.norm (i := 6) hf6 (JC.norm (i := 7) hf7 (JC.norm (i := 8) hf8 ?_))))
        refine JC.seq ?_
        refine JC.seq ?_
        refine JC.region (by rfl) ?_
        intro hQ
        refine JL.move .none rfl ?_
        refine JL.fieldAddr fo_118_1 rfl .none rfl ?_
        refine JL.fieldAddr fo_38_1 rfl .none rfl ?_
        refine JL.loadOwn 0 az_3 rfl rfl rfl .none rfl ?_
        refine JL.bin rfl rfl rfl .none rfl ?_
        refine JL.done hQ ?_
        refine JQ.go ?_
        rcases ite_some hF with ⟨hc472, hF⟩ | ⟨hc472, hF⟩
        · refine JC.cond_t (b := decide (b_467 ≤ y2.Stretch.High)) rfl hc472 ?_
          refine JC.skip ?_
          refine JQ.go ?_
          refine JC.seq ?_
          refine JC.block ?_
          refine JC.region (by rfl) ?_
          intro hQ
          refine JL.move .none rfl ?_
          refine JL.move .none rfl ?_
          refine JL.move .none rfl ?_
          refine JL.build (l := [.int .i64 a_411, .int .i64 b_467]) (by kernel_rfl) .none rfl ?_
          refine JL.buildSlice (e := 72) (l := [.int .i64 a_411, .int .i64 b_467]) (by kernel_rfl) .none rfl ?_
          intro b473
          obtain ⟨l474, hl474, hF⟩ := bind_some hF
          refine JL.appO (R := R_ref01_Pair) 0 0 (l := out_468) (m := [(ref01_Pair.mk a_411 b_467)]) ap_128 rfl ⟨rfl, rfl⟩ rfl hout_468 rfl rfl rfl (CH.cons (cs := [.int .i64 a_411, .int .i64 b_467]) rfl rfl CH.nil) rfl (one_cons rfl (one_cons rfl one_nil)) hl474 .none rfl ?_
          intro v475 xs476 hch477
          refine JL.assign .none rfl ?_
          refine JL.done hQ ?_
          refine JQ.normal_block ?_
          refine JQ.go ?_
          refine JC.fresh (fun f => f 5 = .pointer (some ⟨b7, 0, none⟩) ∧ f 6 = v475 ∧ f 7 = .int .i64 a_411 ∧ f 8 = .int .i64 b_467) ⟨rfl, rfl, rfl, rfl⟩ ?_
          rintro f ⟨hf5, hf6, hf7, hf8⟩
          refine (JC.norm (i := 5) hf5 (JC.norm (i := 6) hf6 (JC.norm (i := 7) hf7 (JC.norm (i := 8) hf8 ?_))))
          refine JC.region (by rfl) ?_
          intro hQ
          refine JL.move .none rfl ?_
          refine JL.bin rfl rfl rfl .none rfl ?_
          refine JL.assign .none rfl ?_
          refine JL.done hQ ?_
          obtain rfl := Option.some.inj hF
          refine JQ.mask [false, true] [true] ?_
          exact JQ.next rfl ⟨v475, xs476, rfl, rfl, rfl, rfl, rfl, rfl, hch477, hs469⟩
        · refine JC.cond_f (b := decide (b_467 ≤ y2.Stretch.High)) rfl hc472 ?_
          refine JC.exit ?_
          refine JQ.exit_then ?_
          refine JQ.exit_then ?_
          refine JQ.exit_block ?_
          obtain rfl := Option.some.inj hF
          have ehr470 := hr470 _ rfl
          subst ehr470
          exact JQ.join out_468 ⟨vout_468, xsout_468, rfl, rfl, rfl, rfl, rfl, hout_468, hs469, rfl⟩
      · rintro out_446 H447 f bs gs ⟨vout_446, xsout_446, hf5, hf6, hf7, rfl, rfl, hout_446, hs447, rfl⟩
        have hF := hKr448
        try dsimp only at hF
        refine (JQ.norm (i := 5) hf5 (JQ.norm (i := 6) hf6 (JQ.norm (i := 7) hf7 ?_)))
        refine JQ.normal_block ?_
        refine JQ.go ?_
        refine JC.region (by rfl) ?_
        intro hQ
        refine JL.move .none rfl ?_
        refine JL.bin rfl rfl rfl .none rfl ?_
        refine JL.assign .none rfl ?_
        refine JL.done hQ ?_
        obtain rfl := Option.some.inj hF
        exact JQ.next rfl ⟨vout_446, xsout_446, rfl, rfl, rfl, rfl, rfl, hout_446, (HSub.trans hs413 hs447)⟩
    · refine JC.cond_f (b := decide (a_411 ≤ y2.Arm.High)) rfl hc416 ?_
      refine JC.exit ?_
      refine JQ.exit_then ?_
      refine JQ.exit_then ?_
      refine JQ.exit_block ?_
      obtain rfl := Option.some.inj hF
      have ehr414 := hr414 _ rfl
      subst ehr414
      refine JQ.mask [false] [true] ?_
      exact JQ.join out_412 ⟨vout_412, xsout_412, rfl, rfl, rfl, hout_412, hs413, rfl⟩
  · rintro out_278 H279 f bs gs ⟨vout_278, xsout_278, hf6, rfl, rfl, hout_278, hs279, rfl⟩
    have hF := hKr280
    try dsimp only at hF
    refine (JQ.norm (i := 6) hf6 ?_)
    refine JQ.go ?_
    refine JC.seq ?_
    refine JC.region (by rfl) ?_
    intro hQ
    refine JL.move .none rfl ?_
    refine JL.assign .none rfl ?_
    refine JL.done hQ ?_
    refine JQ.go ?_
    refine JC.ret ?_
    refine JQ.freezeG 0 (R := R_ref01_Pair) rfl R_ref01_Pair_mono hout_278 rfl ?_
    intro H478 hs478 hg479
    obtain rfl := Option.some.inj hF
    exact JQ.outH rfl (.tmp .nil) hg479

-- 86 ferrule/ferruleref01.Reduced
def F_ref01_Reduced_s1 (n : Nat)  : Int × Int → Option ((Int × Int) ⊕ Int)
  | (a_37, b_38) => if (b_38 != 0) = true then ((nz b_38).bind fun _ => some (Sum.inl (b_38, (a_37.tmod b_38)))) else (some (Sum.inr a_37))
def F_ref01_Reduced (n : Nat) (num : Int) (den : Int) : Option Frac :=
  (loopO n (F_ref01_Reduced_s1 n) ((max num (w64 (-num))), den)).bind fun a_22 => (nz a_22).bind fun _ => (nz a_22).bind fun _ => some (Frac.mk (w64 (num.tdiv a_22)) (w64 (den.tdiv a_22)))
set_option maxRecDepth 100000 in
set_option maxHeartbeats 40000000 in
theorem c_ref01_Reduced (n : Nat) (H : Hp) (num : Int) (den : Int) (y : Frac) (hF : F_ref01_Reduced n num den = some y) : SC Try.prog 86 [.int .i64 num, .int .i64 den] (.agg [.int .i64 y.Num, .int .i64 y.Den].toArray) H := by
  rw [F_ref01_Reduced] at hF
  refine SC.of (N := 25) Try.func86 rfl rfl rfl fun w => ?_
  refine JC.seq ?_
  refine JC.region (by rfl) ?_
  intro hQ
  refine JL.alloc ze_24 .none rfl ?_
  intro b1
  refine JL.done hQ ?_
  refine JQ.go ?_
  refine JC.seq ?_
  refine JC.region (by rfl) ?_
  intro hQ
  refine JL.move .none rfl ?_
  refine JL.move .none rfl ?_
  refine JL.neg rfl .none rfl ?_
  refine JL.max rfl rfl .none rfl ?_
  refine JL.move .none rfl ?_
  refine JL.assign .none rfl ?_
  refine JL.assign .none rfl ?_
  refine JL.done hQ ?_
  refine JQ.go ?_
  refine JC.seq ?_
  obtain ⟨r24, hlr24, hKr24⟩ := bind_some hF
  refine JC.join (fun (a_22 : Int) H23 f bs gs => f 0 = .int .i64 num ∧ f 1 = .int .i64 den ∧ f 4 = .pointer (some ⟨b1, 0, none⟩) ∧ f 5 = .int .i64 a_22 ∧ bs = [(b1, .cells [.int .i64 0, .int .i64 0].toArray 24)] ∧ gs = [] ∧ HSub H H23 ∧ a_22 = r24) ?_ ?_
  · skip
    refine JC.block ?_
    refine JC.loop hlr24 (fun (x : Int × Int) H39 f bs gs => match x with | (a_37, b_38) => f 0 = .int .i64 num ∧ f 1 = .int .i64 den ∧ f 4 = .pointer (some ⟨b1, 0, none⟩) ∧ f 5 = .int .i64 a_37 ∧ f 6 = .int .i64 b_38 ∧ bs = [(b1, .cells [.int .i64 0, .int .i64 0].toArray 24)] ∧ gs = [] ∧ HSub H H39) ⟨rfl, rfl, rfl, rfl, rfl, rfl, rfl, (HSub.refl _)⟩ ?_
    rintro ⟨a_37, b_38⟩ x41 H39 f bs gs ⟨hf0, hf1, hf4, hf5, hf6, rfl, rfl, hs39⟩ hF hr40
    rw [F_ref01_Reduced_s1] at hF
    refine (JC.norm (i := 0) hf0 (JC.norm (i := 1) hf1 (JC.norm (i := 4) hf4 (JC.norm (i := 5) hf5 (JC.norm (i := 6) hf6 ?_)))))
    refine JC.seq ?_
    refine JC.seq ?_
    refine JC.region (by rfl) ?_
    intro hQ
    refine JL.move .none rfl ?_
    refine JL.bin rfl rfl rfl .none rfl ?_
    refine JL.done hQ ?_
    refine JQ.go ?_
    rcases ite_some hF with ⟨hc42, hF⟩ | ⟨hc42, hF⟩
    · refine JC.cond_t (b := (b_38 != 0)) rfl hc42 ?_
      refine JC.skip ?_
      refine JQ.go ?_
      refine JC.block ?_
      refine JC.draw (by rfl) mo_ (by kernel_rfl) ?_
      intro hQ
      refine JL.move .none rfl ?_
      refine JL.move .none rfl ?_
      refine JL.move .none rfl ?_
      obtain ⟨u44, hu44, hF⟩ := bind_some hF
      refine JL.div rfl rfl (nz_some hu44) rfl .none rfl ?_
      refine JL.assign .none rfl ?_
      refine JL.assign .none rfl ?_
      refine JL.doneQ hQ ?_
      refine JQ.normal_block ?_
      obtain rfl := Option.some.inj hF
      exact JQ.next rfl ⟨rfl, rfl, rfl, rfl, rfl, rfl, rfl, hs39⟩
    · refine JC.cond_f (b := (b_38 != 0)) rfl hc42 ?_
      refine JC.exit ?_
      refine JQ.exit_then ?_
      refine JQ.exit_then ?_
      refine JQ.exit_block ?_
      obtain rfl := Option.some.inj hF
      have ehr40 := hr40 _ rfl
      subst ehr40
      exact JQ.join a_37 ⟨rfl, rfl, rfl, rfl, rfl, rfl, hs39, rfl⟩
  · rintro a_22 H23 f bs gs ⟨hf0, hf1, hf4, hf5, rfl, rfl, hs23, rfl⟩
    have hF := hKr24
    try dsimp only at hF
    refine (JQ.norm (i := 0) hf0 (JQ.norm (i := 1) hf1 (JQ.norm (i := 4) hf4 (JQ.norm (i := 5) hf5 ?_))))
    refine JQ.go ?_
    refine JC.seq ?_
    obtain ⟨u47, hu47, hF⟩ := bind_some hF
    obtain ⟨u48, hu48, hF⟩ := bind_some hF
    refine JC.mixed 7 8 #[false, false, false, false, false, false, false, false] [(b1, .cells [.int .i64 0, .int .i64 0].toArray 24)] (by rfl) mo_ (by kernel_rfl) (by kernel_rfl) ?_
    intro hQ hE
    refine JA.take 0 (listed' := #[true, false, false, false, false, false, false, false]) hQ rfl (by kernel_rfl) (by kernel_rfl) (by kernel_rfl) (by kernel_rfl) (by kernel_rfl) hE (HSub.refl _) (.cons_cons _ (List.nil_sublist _)) ?_
    refine JL.move .none rfl ?_
    refine JA.cont ?_
    refine JA.take 1 (listed' := #[true, true, false, false, false, false, false, false]) hQ rfl (by kernel_rfl) (by kernel_rfl) (by kernel_rfl) (by kernel_rfl) (by kernel_rfl) hE (HSub.refl _) (.cons_cons _ (List.nil_sublist _)) ?_
    refine JL.move .none rfl ?_
    refine JA.cont ?_
    refine JA.take 2 (listed' := #[true, true, true, false, false, false, false, false]) hQ rfl (by kernel_rfl) (by kernel_rfl) (by kernel_rfl) (by kernel_rfl) (by kernel_rfl) hE (HSub.refl _) (.cons_cons _ (List.nil_sublist _)) ?_
    refine JL.div rfl rfl (nz_some hu47) rfl .none rfl ?_
    refine JA.cont ?_
    refine JA.take 3 (listed' := #[true, true, true, true, false, false, false, false]) hQ rfl (by kernel_rfl) (by kernel_rfl) (by kernel_rfl) (by kernel_rfl) (by kernel_rfl) hE (HSub.refl _) (.cons_cons _ (List.nil_sublist _)) ?_
    refine JL.move .none rfl ?_
    refine JA.cont ?_
    refine JA.take 4 (listed' := #[true, true, true, true, true, false, false, false]) hQ rfl (by kernel_rfl) (by kernel_rfl) (by kernel_rfl) (by kernel_rfl) (by kernel_rfl) hE (HSub.refl _) (.cons_cons _ (List.nil_sublist _)) ?_
    refine JL.move .none rfl ?_
    refine JA.cont ?_
    refine JA.take 5 (listed' := #[true, true, true, true, true, true, false, false]) hQ rfl (by kernel_rfl) (by kernel_rfl) (by kernel_rfl) (by kernel_rfl) (by kernel_rfl) hE (HSub.refl _) (.cons_cons _ (List.nil_sublist _)) ?_
    refine JL.div rfl rfl (nz_some hu48) rfl .none rfl ?_
    refine JA.cont ?_
    refine JA.take 6 (listed' := #[true, true, true, true, true, true, true, false]) hQ rfl (by kernel_rfl) (by kernel_rfl) (by kernel_rfl) (by kernel_rfl) (by kernel_rfl) hE (HSub.refl _) (.cons_cons _ (List.nil_sublist _)) ?_
    refine JL.build (l := [.int .i64 (w64 (num.tdiv a_22)), .int .i64 (w64 (den.tdiv a_22))]) (by kernel_rfl) .none rfl ?_
    refine JA.cont ?_
    refine JA.many [7] (by kernel_rfl) (by simp) (all_one ⟨_, #[true, true, true, true, true, true, true, true], rfl, (by kernel_rfl), ?_⟩)
    refine JL.storeOwn 0 (cs := [.int .i64 (w64 (num.tdiv a_22)), .int .i64 (w64 (den.tdiv a_22))]) az_24 rfl rfl rfl (one_cons rfl (one_cons rfl one_nil)) rfl rfl .none ?_
    refine JA.sink (by kernel_rfl) ?_
    refine JA.done hQ (by kernel_rfl) ?_
    refine JQ.go ?_
    refine JC.ret ?_
    obtain rfl := Option.some.inj hF
    exact JQ.outS rfl (.cell 0 az_24 rfl rfl rfl .nil) rfl

-- 65 ferrule/ferruleref01.CosineOf
def F_ref01_CosineOf (n : Nat) (d : Int) (p : ref01_Pair) : Option (Frac × Bool) :=
  if (d == 0) = true then (some ((Frac.mk 0 0), false)) else ((F_ref01_Reduced n (w64 ((w64 ((w64 (d * d)) + (w64 (p.Arm * p.Arm)))) - (w64 (p.Stretch * p.Stretch)))) (w64 ((w64 (2 * d)) * p.Arm))).bind fun y4 => some (y4, true))
set_option maxRecDepth 100000 in
set_option maxHeartbeats 40000000 in
theorem c_ref01_CosineOf (n : Nat) (H : Hp) (d : Int) (p : ref01_Pair) (y : Frac × Bool) (hF : F_ref01_CosineOf n d p = some y) : SC Try.prog 65 [.int .i64 d, .agg [.int .i64 p.Arm, .int .i64 p.Stretch].toArray] (.tuple [.agg [.int .i64 y.1.Num, .int .i64 y.1.Den].toArray, .bool y.2].toArray) H := by
  rw [F_ref01_CosineOf] at hF
  refine SC.of (N := 30) Try.func65 rfl rfl rfl fun w => ?_
  refine JC.seq ?_
  refine JC.region (by rfl) ?_
  intro hQ
  refine JL.box (cs := [.int .i64 p.Arm, .int .i64 p.Stretch]) rfl .none rfl ?_
  intro b1
  refine JL.alloc ze_24 .none rfl ?_
  intro b2
  refine JL.assign .none rfl ?_
  refine JL.done hQ ?_
  refine JQ.go ?_
  refine JC.seq ?_
  refine JC.seq ?_
  refine JC.region (by rfl) ?_
  intro hQ
  refine JL.move .none rfl ?_
  refine JL.bin rfl rfl rfl .none rfl ?_
  refine JL.done hQ ?_
  refine JQ.go ?_
  rcases ite_some hF with ⟨hc3, hF⟩ | ⟨hc3, hF⟩
  · refine JC.cond_t (b := (d == 0)) rfl hc3 ?_
    refine JC.seq ?_
    refine JC.region (by rfl) ?_
    intro hQ
    refine JL.build (l := [.int .i64 0, .int .i64 0]) (by kernel_rfl) .none rfl ?_
    refine JL.storeOwn 0 (cs := [.int .i64 0, .int .i64 0]) az_24 rfl rfl rfl (one_cons rfl (one_cons rfl one_nil)) rfl rfl .none ?_
    refine JL.assign .none rfl ?_
    refine JL.done hQ ?_
    refine JQ.go ?_
    refine JC.ret ?_
    refine JQ.ret_then ?_
    obtain rfl := Option.some.inj hF
    exact JQ.outS rfl (.cell 0 az_24 rfl rfl rfl (.tmp .nil)) rfl
  · refine JC.cond_f (b := (d == 0)) rfl hc3 ?_
    refine JC.skip ?_
    refine JQ.go ?_
    refine JC.seq ?_
    refine JC.region (by rfl) ?_
    intro hQ
    refine JL.move .none rfl ?_
    refine JL.move .none rfl ?_
    refine JL.bin rfl rfl rfl .none rfl ?_
    refine JL.fieldAddr fo_72_0 rfl .none rfl ?_
    refine JL.loadOwn 1 az_3 rfl rfl rfl .none rfl ?_
    refine JL.fieldAddr fo_72_0 rfl .none rfl ?_
    refine JL.loadOwn 1 az_3 rfl rfl rfl .none rfl ?_
    refine JL.bin rfl rfl rfl .none rfl ?_
    refine JL.bin rfl rfl rfl .none rfl ?_
    refine JL.fieldAddr fo_72_1 rfl .none rfl ?_
    refine JL.loadOwn 1 az_3 rfl rfl rfl .none rfl ?_
    refine JL.fieldAddr fo_72_1 rfl .none rfl ?_
    refine JL.loadOwn 1 az_3 rfl rfl rfl .none rfl ?_
    refine JL.bin rfl rfl rfl .none rfl ?_
    refine JL.bin rfl rfl rfl .none rfl ?_
    refine JL.move .none rfl ?_
    refine JL.bin rfl rfl rfl .none rfl ?_
    refine JL.fieldAddr fo_72_0 rfl .none rfl ?_
    refine JL.loadOwn 1 az_3 rfl rfl rfl .none rfl ?_
    refine JL.bin rfl rfl rfl .none rfl ?_
    obtain ⟨y4, hy4, hF⟩ := bind_some hF
    refine JL.callS (c_ref01_Reduced n H (w64 ((w64 ((w64 (d * d)) + (w64 (p.Arm * p.Arm)))) - (w64 (p.Stretch * p.Stretch)))) (w64 ((w64 (2 * d)) * p.Arm)) y4 hy4) rfl en_86 .none rfl ?_
    refine JL.storeOwn 0 (cs := [.int .i64 y4.Num, .int .i64 y4.Den]) az_24 rfl rfl rfl (one_cons rfl (one_cons rfl one_nil)) rfl rfl .none ?_
    refine JL.assign .none rfl ?_
    refine JL.done hQ ?_
    refine JQ.go ?_
    refine JC.fresh (fun f => f 4 = .pointer (some ⟨b2, 0, none⟩) ∧ f 5 = .bool true) ⟨rfl, rfl⟩ ?_
    rintro f ⟨hf4, hf5⟩
    refine (JC.norm (i := 4) hf4 (JC.norm (i := 5) hf5 ?_))
    refine JC.ret ?_
    obtain rfl := Option.some.inj hF
    exact JQ.outS rfl (.cell 0 az_24 rfl rfl rfl (.tmp .nil)) rfl

-- 37 ferrule/ferruleref05.LiftOf
def F_ref05_LiftOf (n : Nat) (d : Canopy) (p : ref01_Pair) : Option Int :=
  (F_ref01_CosineOf n d.Frame.Low p).bind fun y3 => (nz y3.1.Den).bind fun _ => (nz y3.1.Den).bind fun _ => (if decide (((w64 (100 * y3.1.Num)).tmod y3.1.Den) < 0) = true then (some (w64 ((w64 ((w64 (100 * y3.1.Num)).tdiv y3.1.Den)) - 1))) else (some (w64 ((w64 (100 * y3.1.Num)).tdiv y3.1.Den)))).bind fun part_8 => some (min 200 (max 0 (w64 (100 + part_8))))
set_option maxRecDepth 100000 in
set_option maxHeartbeats 40000000 in
theorem c_ref05_LiftOf (n : Nat) (H : Hp) (d : Canopy) (d_v0 : Value) (hd_0 : SL H 7 R_Section d_v0 d.Frame.Sections) (d_v7 : Value) (hd_7 : SL H 2 R_Span d_v7 d.Ribs) (d_v8 : Value) (hd_8 : SL H 1 RInt d_v8 d.Shares) (p : ref01_Pair) (y : Int) (hF : F_ref05_LiftOf n d p = some y) : SC Try.prog 37 [.agg [d_v0, .int .i64 d.Frame.Low, .int .i64 d.Frame.High, .int .i64 d.Frame.Ease.Num, .int .i64 d.Frame.Ease.Den, .int .i64 d.Frame.Rod, .int .i64 d.Frame.Case, d_v7, d_v8].toArray, .agg [.int .i64 p.Arm, .int .i64 p.Stretch].toArray] (.int .i64 y) H := by
  rw [F_ref05_LiftOf] at hF
  refine SC.of (N := 35) Try.func37 rfl rfl rfl fun w => ?_
  refine JC.seq ?_
  refine JC.region (by rfl) ?_
  intro hQ
  refine JL.box (cs := [d_v0, .int .i64 d.Frame.Low, .int .i64 d.Frame.High, .int .i64 d.Frame.Ease.Num, .int .i64 d.Frame.Ease.Den, .int .i64 d.Frame.Rod, .int .i64 d.Frame.Case, d_v7, d_v8]) rfl .none rfl ?_
  intro b1
  refine JL.box (cs := [.int .i64 p.Arm, .int .i64 p.Stretch]) rfl .none rfl ?_
  intro b2
  refine JL.assign .none rfl ?_
  refine JL.done hQ ?_
  refine JQ.go ?_
  refine JC.seq ?_
  refine JC.region (by rfl) ?_
  intro hQ
  refine JL.fieldAddr fo_30_0 rfl .none rfl ?_
  refine JL.fieldAddr fo_26_1 rfl .none rfl ?_
  refine JL.loadOwn 1 az_3 rfl rfl rfl .none rfl ?_
  refine JL.loadOwn 0 az_72 rfl rfl rfl .none rfl ?_
  obtain ⟨y3, hy3, hF⟩ := bind_some hF
  refine JL.callS (c_ref01_CosineOf n H d.Frame.Low p y3 hy3) rfl en_65 .none rfl ?_
  refine JL.move .none rfl ?_
  refine JL.extract rfl rfl .none rfl ?_
  refine JL.extract rfl rfl .none rfl ?_
  refine JL.alloc ze_24 .none rfl ?_
  intro b4
  refine JL.storeOwn 0 (cs := [.int .i64 y3.1.Num, .int .i64 y3.1.Den]) az_24 rfl rfl rfl (one_cons rfl (one_cons rfl one_nil)) rfl rfl .none ?_
  refine JL.assign .none rfl ?_
  refine JL.done hQ ?_
  refine JQ.go ?_
  refine JC.fresh (fun f => f 4 = .int .i64 0 ∧ f 5 = .pointer (some ⟨b4, 0, none⟩)) ⟨rfl, rfl⟩ ?_
  rintro f ⟨hf4, hf5⟩
  refine (JC.norm (i := 4) hf4 (JC.norm (i := 5) hf5 ?_))
  refine JC.seq ?_
  refine JC.region (by rfl) ?_
  intro hQ
  refine JL.fieldAddr fo_24_0 rfl .none rfl ?_
  refine JL.loadOwn 0 az_3 rfl rfl rfl .none rfl ?_
  refine JL.bin rfl rfl rfl .none rfl ?_
  refine JL.assign .none rfl ?_
  refine JL.done hQ ?_
  refine JQ.go ?_
  refine JC.seq ?_
  refine JC.region (by rfl) ?_
  intro hQ
  refine JL.move .none rfl ?_
  refine JL.fieldAddr fo_24_1 rfl .none rfl ?_
  refine JL.loadOwn 0 az_3 rfl rfl rfl .none rfl ?_
  obtain ⟨u5, hu5, hF⟩ := bind_some hF
  refine JL.div rfl rfl (nz_some hu5) rfl .none rfl ?_
  refine JL.assign .none rfl ?_
  refine JL.done hQ ?_
  refine JQ.go ?_
  refine JC.seq ?_
  refine JC.seq ?_
  refine JC.region (by rfl) ?_
  intro hQ
  refine JL.move .none rfl ?_
  refine JL.fieldAddr fo_24_1 rfl .none rfl ?_
  refine JL.loadOwn 0 az_3 rfl rfl rfl .none rfl ?_
  obtain ⟨u6, hu6, hF⟩ := bind_some hF
  refine JL.div rfl rfl (nz_some hu6) rfl .none rfl ?_
  refine JL.bin rfl rfl rfl .none rfl ?_
  refine JL.done hQ ?_
  refine JQ.go ?_
  refine JC.fresh (fun f => f 4 = .int .i64 0 ∧ f 8 = .int .i64 (w64 ((w64 (100 * y3.1.Num)).tdiv y3.1.Den)) ∧ f 28 = .bool (decide (((w64 (100 * y3.1.Num)).tmod y3.1.Den) < 0))) ⟨rfl, rfl, rfl⟩ ?_
  rintro f ⟨hf4, hf8, hf28⟩
  refine (JC.norm (i := 4) hf4 (JC.norm (i := 8) hf8 (JC.norm (i := 28) hf28 ?_)))
  obtain ⟨r10, hlr10, hKr10⟩ := bind_some hF
  refine JC.join (fun (part_8 : Int) H9 f bs gs => f 8 = .int .i64 part_8 ∧ bs = [] ∧ gs = [] ∧ HSub H H9 ∧ part_8 = r10) ?_ ?_
  · have hF := hlr10
    rcases ite_some hF with ⟨hc11, hF⟩ | ⟨hc11, hF⟩
    · refine JC.cond_t (b := decide (((w64 (100 * y3.1.Num)).tmod y3.1.Den) < 0)) rfl hc11 ?_
      refine JC.region (by rfl) ?_
      intro hQ
      refine JL.move .none rfl ?_
      refine JL.bin rfl rfl rfl .none rfl ?_
      refine JL.assign .none rfl ?_
      refine JL.done hQ ?_
      obtain rfl := Option.some.inj hF
      refine JQ.mask [false, false, false] [] ?_
      exact JQ.join (w64 ((w64 ((w64 (100 * y3.1.Num)).tdiv y3.1.Den)) - 1)) ⟨rfl, rfl, rfl, (HSub.refl _), rfl⟩
    · refine JC.cond_f (b := decide (((w64 (100 * y3.1.Num)).tmod y3.1.Den) < 0)) rfl hc11 ?_
      refine JC.skip ?_
      obtain rfl := Option.some.inj hF
      refine JQ.mask [false, false, false] [] ?_
      exact JQ.join (w64 ((w64 (100 * y3.1.Num)).tdiv y3.1.Den)) ⟨rfl, rfl, rfl, (HSub.refl _), rfl⟩
  · rintro part_8 H9 f bs gs ⟨hf8, rfl, rfl, hs9, rfl⟩
    have hF := hKr10
    try dsimp only at hF
    refine (JQ.norm (i := 8) hf8 ?_)
    refine JQ.go ?_
    refine JC.seq ?_
    refine JC.region (by rfl) ?_
    intro hQ
    refine JL.move .none rfl ?_
    refine JL.bin rfl rfl rfl .none rfl ?_
    refine JL.max rfl rfl .none rfl ?_
    refine JL.min rfl rfl .none rfl ?_
    refine JL.assign .none rfl ?_
    refine JL.done hQ ?_
    refine JQ.go ?_
    refine JC.ret ?_
    obtain rfl := Option.some.inj hF
    exact JQ.outS rfl (.tmp .nil) rfl

-- 57 ferrule/ferruleref05.lift
def F_ref05_lift_s1 (n : Nat) (d : Canopy) (y3 : (List ref01_Pair)) : Int × Int × Int → Option ((Int × Int × Int) ⊕ (Int × Int))
  | (i_97, z_98, z_99) => if decide (i_97 < (y3.length : Int)) = true then ((geti y3 i_97).bind fun y110 => (F_ref05_LiftOf n d y110).bind fun y115 => some (Sum.inl ((w64 (i_97 + 1)), (min z_98 y115), (max z_99 y115)))) else (some (Sum.inr (z_98, z_99)))
def F_ref05_lift (n : Nat) (d : Canopy) : Option Span :=
  (F_ref01_Pairs n d.Frame 0).bind fun y3 => (loopO n (F_ref05_lift_s1 n d y3) (0, 200, 0)).bind fun r62 => match r62 with | (z_59, z_60) => some (Span.mk z_59 z_60)
set_option maxRecDepth 100000 in
set_option maxHeartbeats 40000000 in
theorem c_ref05_lift (n : Nat) (H : Hp) (d : Canopy) (d_v0 : Value) (hd_0 : SL H 7 R_Section d_v0 d.Frame.Sections) (d_v7 : Value) (hd_7 : SL H 2 R_Span d_v7 d.Ribs) (d_v8 : Value) (hd_8 : SL H 1 RInt d_v8 d.Shares) (y : Span) (hF : F_ref05_lift n d = some y) : SC Try.prog 57 [.agg [d_v0, .int .i64 d.Frame.Low, .int .i64 d.Frame.High, .int .i64 d.Frame.Ease.Num, .int .i64 d.Frame.Ease.Den, .int .i64 d.Frame.Rod, .int .i64 d.Frame.Case, d_v7, d_v8].toArray] (.agg [.int .i64 y.Low, .int .i64 y.High].toArray) H := by
  rw [F_ref05_lift] at hF
  refine SC.of (N := 33) Try.func57 rfl rfl rfl fun w => ?_
  refine JC.seq ?_
  refine JC.region (by rfl) ?_
  intro hQ
  refine JL.box (cs := [d_v0, .int .i64 d.Frame.Low, .int .i64 d.Frame.High, .int .i64 d.Frame.Ease.Num, .int .i64 d.Frame.Ease.Den, .int .i64 d.Frame.Rod, .int .i64 d.Frame.Case, d_v7, d_v8]) rfl .none rfl ?_
  intro b1
  refine JL.alloc ze_38 .none rfl ?_
  intro b2
  refine JL.done hQ ?_
  refine JQ.go ?_
  refine JC.seq ?_
  refine JC.region (by rfl) ?_
  intro hQ
  refine JL.fieldAddr fo_30_0 rfl .none rfl ?_
  refine JL.loadOwn 1 az_26 rfl rfl rfl .none rfl ?_
  obtain ⟨y3, hy3, hF⟩ := bind_some hF
  refine JL.callH (c_ref01_Pairs n H d.Frame d_v0 hd_0 0 y3 hy3) rfl en_84 .none rfl ?_
  intro H4 y3a_v0 hs4 hy3a_0
  refine JL.assign .none rfl ?_
  refine JL.done hQ ?_
  refine JQ.go ?_
  refine JC.seq ?_
  refine JC.region (by rfl) ?_
  intro hQ
  refine JL.build (l := [.int .i64 200, .int .i64 0]) (by kernel_rfl) .none rfl ?_
  refine JL.alloc ze_38 .none rfl ?_
  intro b5
  refine JL.storeOwn 0 (cs := [.int .i64 200, .int .i64 0]) az_38 rfl rfl rfl (one_cons rfl (one_cons rfl one_nil)) rfl rfl .none ?_
  refine JL.done hQ ?_
  refine JQ.go ?_
  refine JC.seq ?_
  refine JC.seq ?_
  refine JC.region (by rfl) ?_
  intro hQ
  refine JL.assign .none rfl ?_
  refine JL.done hQ ?_
  refine JQ.go ?_
  obtain ⟨r62, hlr62, hKr62⟩ := bind_some hF
  refine JC.join (fun (x : Int × Int) H61 f bs gs => match x with | (z_59, z_60) => f 2 = .pointer (some ⟨b2, 0, none⟩) ∧ f 4 = .pointer (some ⟨b5, 0, none⟩) ∧ bs = [(b5, .cells [.int .i64 z_59, .int .i64 z_60].toArray 38), (b2, .cells [.int .i64 0, .int .i64 0].toArray 38)] ∧ gs = [] ∧ HSub H4 H61 ∧ (z_59, z_60) = r62) ?_ ?_
  · skip
    refine JC.block ?_
    refine JC.loop hlr62 (fun (x : Int × Int × Int) H100 f bs gs => match x with | (i_97, z_98, z_99) => f 1 = .pointer (some ⟨b1, 0, none⟩) ∧ f 2 = .pointer (some ⟨b2, 0, none⟩) ∧ f 3 = y3a_v0 ∧ f 4 = .pointer (some ⟨b5, 0, none⟩) ∧ f 5 = .int .i64 i_97 ∧ bs = [(b5, .cells [.int .i64 z_98, .int .i64 z_99].toArray 38), (b2, .cells [.int .i64 0, .int .i64 0].toArray 38), (b1, .cells [d_v0, .int .i64 d.Frame.Low, .int .i64 d.Frame.High, .int .i64 d.Frame.Ease.Num, .int .i64 d.Frame.Ease.Den, .int .i64 d.Frame.Rod, .int .i64 d.Frame.Case, d_v7, d_v8].toArray 30)] ∧ gs = [] ∧ HSub H4 H100) ⟨rfl, rfl, rfl, rfl, rfl, rfl, rfl, (HSub.refl _)⟩ ?_
    rintro ⟨i_97, z_98, z_99⟩ x102 H100 f bs gs ⟨hf1, hf2, hf3, hf4, hf5, rfl, rfl, hs100⟩ hF hr101
    rw [F_ref05_lift_s1] at hF
    refine (JC.norm (i := 1) hf1 (JC.norm (i := 2) hf2 (JC.norm (i := 3) hf3 (JC.norm (i := 4) hf4 (JC.norm (i := 5) hf5 ?_)))))
    refine JC.seq ?_
    refine JC.seq ?_
    refine JC.region (by rfl) ?_
    intro hQ
    refine JL.move .none rfl ?_
    refine JL.move .none rfl ?_
    refine JL.lenSL (R := R_ref01_Pair) ul_128 (SL.mono R_ref01_Pair_mono hs100 hy3a_0) .none rfl ?_
    refine JL.bin rfl rfl rfl .none rfl ?_
    refine JL.done hQ ?_
    refine JQ.go ?_
    rcases ite_some hF with ⟨hc103, hF⟩ | ⟨hc103, hF⟩
    · refine JC.cond_t (b := decide (i_97 < (y3.length : Int))) rfl hc103 ?_
      refine JC.skip ?_
      refine JQ.go ?_
      refine JC.seq ?_
      refine JC.block ?_
      refine JC.seq ?_
      refine JC.draw (by rfl) mo_ (by kernel_rfl) ?_
      intro hQ
      refine JL.loadOwn 2 az_30 rfl rfl rfl .none rfl ?_
      refine JL.move .none rfl ?_
      refine JL.move .none rfl ?_
      obtain ⟨y110, hy110, hF⟩ := bind_some hF
      refine JL.indexSL (R := R_ref01_Pair) sl_128 (SL.mono R_ref01_Pair_mono hs100 hy3a_0) rfl hy110 .none rfl ?_
      rintro b111 o112 cs113 hc114 - rfl
      refine JL.loadH 0 az_72 rfl hc114 rfl .none rfl ?_
      obtain ⟨y115, hy115, hF⟩ := bind_some hF
      refine JL.callS (c_ref05_LiftOf n H100 d d_v0 (SL.mono R_Section_mono (HSub.trans hs4 hs100) hd_0) d_v7 (SL.mono R_Span_mono (HSub.trans hs4 hs100) hd_7) d_v8 (SL.mono RInt.mono (HSub.trans hs4 hs100) hd_8) y110 y115 hy115) rfl en_37 .none rfl ?_
      refine JL.assign .none rfl ?_
      refine JL.doneQ hQ ?_
      refine JQ.go ?_
      refine JC.fresh (fun f => f 1 = .pointer (some ⟨b1, 0, none⟩) ∧ f 2 = .pointer (some ⟨b2, 0, none⟩) ∧ f 3 = y3a_v0 ∧ f 4 = .pointer (some ⟨b5, 0, none⟩) ∧ f 5 = .int .i64 i_97 ∧ f 6 = .int .i64 y115) ⟨rfl, rfl, rfl, rfl, rfl, rfl⟩ ?_
      rintro f ⟨hf1, hf2, hf3, hf4, hf5, hf6⟩
      refine (JC.norm (i := 1) hf1 (JC.norm (i := 2) hf2 (JC.norm (i := 3) hf3 (JC.norm (i := 4) hf4 (JC.norm (i := 5) hf5 (JC.norm (i := 6) hf6 ?_))))))
      refine JC.region (by rfl) ?_
      intro hQ
      refine JL.fieldAddr fo_38_0 rfl .none rfl ?_
      refine JL.loadOwn 0 az_3 rfl rfl rfl .none rfl ?_
      refine JL.move .none rfl ?_
      refine JL.min rfl rfl .none rfl ?_
      refine JL.fieldAddr fo_38_1 rfl .none rfl ?_
      refine JL.loadOwn 0 az_3 rfl rfl rfl .none rfl ?_
      refine JL.move .none rfl ?_
      refine JL.max rfl rfl .none rfl ?_
      refine JL.build (l := [.int .i64 (min z_98 y115), .int .i64 (max z_99 y115)]) (by kernel_rfl) .none rfl ?_
      refine JL.storeOwn 0 (cs := [.int .i64 (min z_98 y115), .int .i64 (max z_99 y115)]) az_38 rfl rfl rfl (one_cons rfl (one_cons rfl one_nil)) rfl rfl .none ?_
      refine JL.done hQ ?_
      refine JQ.normal_block ?_
      refine JQ.go ?_
      refine JC.fresh (fun f => f 1 = .pointer (some ⟨b1, 0, none⟩) ∧ f 2 = .pointer (some ⟨b2, 0, none⟩) ∧ f 3 = y3a_v0 ∧ f 4 = .pointer (some ⟨b5, 0, none⟩) ∧ f 5 = .int .i64 i_97) ⟨rfl, rfl, rfl, rfl, rfl⟩ ?_
      rintro f ⟨hf1, hf2, hf3, hf4, hf5⟩
      refine (JC.norm (i := 1) hf1 (JC.norm (i := 2) hf2 (JC.norm (i := 3) hf3 (JC.norm (i := 4) hf4 (JC.norm (i := 5) hf5 ?_)))))
      refine JC.region (by rfl) ?_
      intro hQ
      refine JL.move .none rfl ?_
      refine JL.bin rfl rfl rfl .none rfl ?_
      refine JL.assign .none rfl ?_
      refine JL.done hQ ?_
      obtain rfl := Option.some.inj hF
      exact JQ.next rfl ⟨rfl, rfl, rfl, rfl, rfl, rfl, rfl, hs100⟩
    · refine JC.cond_f (b := decide (i_97 < (y3.length : Int))) rfl hc103 ?_
      refine JC.exit ?_
      refine JQ.exit_then ?_
      refine JQ.exit_then ?_
      refine JQ.exit_block ?_
      obtain rfl := Option.some.inj hF
      have ehr101 := hr101 _ rfl
      subst ehr101
      refine JQ.mask [true, true, false] [] ?_
      exact JQ.join (z_98, z_99) ⟨rfl, rfl, rfl, rfl, hs100, rfl⟩
  · rintro ⟨z_59, z_60⟩ H61 f bs gs ⟨hf2, hf4, rfl, rfl, hs61, rfl⟩
    have hF := hKr62
    try dsimp only at hF
    refine (JQ.norm (i := 2) hf2 (JQ.norm (i := 4) hf4 ?_))
    refine JQ.go ?_
    refine JC.seq ?_
    refine JC.region (by rfl) ?_
    intro hQ
    refine JL.loadOwn 0 az_38 rfl rfl rfl .none rfl ?_
    refine JL.storeOwn 1 (cs := [.int .i64 z_59, .int .i64 z_60]) az_38 rfl rfl rfl (one_cons rfl (one_cons rfl one_nil)) rfl rfl .none ?_
    refine JL.done hQ ?_
    refine JQ.go ?_
    refine JC.ret ?_
    obtain rfl := Option.some.inj hF
    exact JQ.outS rfl (.cell 1 az_38 rfl rfl rfl .nil) rfl

-- 20 ferrule/ferruleref05.Lift
def F_ref05_Lift (n : Nat) (d : Canopy) : Option (Span × Int) :=
  (F_ref05_Check n d).bind fun y3 => if (y3 != 0) = true then (some ((Span.mk 0 0), y3)) else ((F_ref05_lift n d).bind fun y5 => some (y5, 0))
set_option maxRecDepth 100000 in
set_option maxHeartbeats 40000000 in
theorem c_ref05_Lift (n : Nat) (H : Hp) (d : Canopy) (d_v0 : Value) (hd_0 : SL H 7 R_Section d_v0 d.Frame.Sections) (d_v7 : Value) (hd_7 : SL H 2 R_Span d_v7 d.Ribs) (d_v8 : Value) (hd_8 : SL H 1 RInt d_v8 d.Shares) (y : Span × Int) (hF : F_ref05_Lift n d = some y) : SC Try.prog 20 [.agg [d_v0, .int .i64 d.Frame.Low, .int .i64 d.Frame.High, .int .i64 d.Frame.Ease.Num, .int .i64 d.Frame.Ease.Den, .int .i64 d.Frame.Rod, .int .i64 d.Frame.Case, d_v7, d_v8].toArray] (.tuple [.agg [.int .i64 y.1.Low, .int .i64 y.1.High].toArray, .int .i64 y.2].toArray) H := by
  rw [F_ref05_Lift] at hF
  refine SC.of (N := 13) Try.func20 rfl rfl rfl fun w => ?_
  refine JC.seq ?_
  refine JC.region (by rfl) ?_
  intro hQ
  refine JL.box (cs := [d_v0, .int .i64 d.Frame.Low, .int .i64 d.Frame.High, .int .i64 d.Frame.Ease.Num, .int .i64 d.Frame.Ease.Den, .int .i64 d.Frame.Rod, .int .i64 d.Frame.Case, d_v7, d_v8]) rfl .none rfl ?_
  intro b1
  refine JL.alloc ze_38 .none rfl ?_
  intro b2
  refine JL.assign .none rfl ?_
  refine JL.done hQ ?_
  refine JQ.go ?_
  refine JC.seq ?_
  refine JC.seq ?_
  refine JC.region (by rfl) ?_
  intro hQ
  refine JL.loadOwn 1 az_30 rfl rfl rfl .none rfl ?_
  obtain ⟨y3, hy3, hF⟩ := bind_some hF
  refine JL.callS (c_ref05_Check n H d d_v0 hd_0 d_v7 hd_7 d_v8 hd_8 y3 hy3) rfl en_18 .none rfl ?_
  refine JL.assign .none rfl ?_
  refine JL.done hQ ?_
  refine JQ.go ?_
  refine JC.seq ?_
  refine JC.region (by rfl) ?_
  intro hQ
  refine JL.move .none rfl ?_
  refine JL.bin rfl rfl rfl .none rfl ?_
  refine JL.done hQ ?_
  refine JQ.go ?_
  rcases ite_some hF with ⟨hc4, hF⟩ | ⟨hc4, hF⟩
  · refine JC.cond_t (b := (y3 != 0)) rfl hc4 ?_
    refine JC.seq ?_
    refine JC.region (by rfl) ?_
    intro hQ
    refine JL.build (l := [.int .i64 0, .int .i64 0]) (by kernel_rfl) .none rfl ?_
    refine JL.move .none rfl ?_
    refine JL.storeOwn 0 (cs := [.int .i64 0, .int .i64 0]) az_38 rfl rfl rfl (one_cons rfl (one_cons rfl one_nil)) rfl rfl .none ?_
    refine JL.assign .none rfl ?_
    refine JL.done hQ ?_
    refine JQ.go ?_
    refine JC.ret ?_
    refine JQ.ret_then ?_
    obtain rfl := Option.some.inj hF
    exact JQ.outS rfl (.cell 0 az_38 rfl rfl rfl (.tmp .nil)) rfl
  · refine JC.cond_f (b := (y3 != 0)) rfl hc4 ?_
    refine JC.skip ?_
    refine JQ.go ?_
    refine JC.seq ?_
    refine JC.region (by rfl) ?_
    intro hQ
    refine JL.loadOwn 1 az_30 rfl rfl rfl .none rfl ?_
    obtain ⟨y5, hy5, hF⟩ := bind_some hF
    refine JL.callS (c_ref05_lift n H d d_v0 hd_0 d_v7 hd_7 d_v8 hd_8 y5 hy5) rfl en_57 .none rfl ?_
    refine JL.storeOwn 0 (cs := [.int .i64 y5.Low, .int .i64 y5.High]) az_38 rfl rfl rfl (one_cons rfl (one_cons rfl one_nil)) rfl rfl .none ?_
    refine JL.assign .none rfl ?_
    refine JL.done hQ ?_
    refine JQ.go ?_
    refine JC.ret ?_
    obtain rfl := Option.some.inj hF
    exact JQ.outS rfl (.cell 0 az_38 rfl rfl rfl (.tmp .nil)) rfl

-- 21 ferrule/gusts.Loads
def F_gusts_Loads_s1 (n : Nat) (d : Canopy) (g : Gust) (y9 : gusts_blown × gusts_blown) : Int × List Span → Option ((Int × List Span) ⊕ (List Span))
  | (x_147, out_148) => if decide (x_147 < (d.Ribs.length : Int)) = true then ((F_gusts_blown_load n y9.1 g x_147).bind fun y155 => (F_gusts_blown_load n y9.2 g x_147).bind fun y156 => (lim (out_148 ++ [(Span.mk y155 y156)])).bind fun l158 => some (Sum.inl ((w64 (x_147 + 1)), l158))) else (some (Sum.inr out_148))
def F_gusts_Loads (n : Nat) (d : Canopy) (g : Gust) : Option ((List Span) × Int) :=
  (F_gusts_ask n d [g]).bind fun y7 => if (y7 != 0) = true then (some (([] : List Span), y7)) else ((F_gusts_ends n d).bind fun y9 => (loopO n (F_gusts_Loads_s1 n d g y9) (0, ([] : List Span))).bind fun out_102 => some (out_102, 0))
set_option maxRecDepth 100000 in
set_option maxHeartbeats 40000000 in
theorem c_gusts_Loads (n : Nat) (H : Hp) (d : Canopy) (d_v0 : Value) (hd_0 : SL H 7 R_Section d_v0 d.Frame.Sections) (d_v7 : Value) (hd_7 : SL H 2 R_Span d_v7 d.Ribs) (d_v8 : Value) (hd_8 : SL H 1 RInt d_v8 d.Shares) (g : Gust) (y : (List Span) × Int) (hF : F_gusts_Loads n d g = some y) : HC Try.prog 21 [.agg [d_v0, .int .i64 d.Frame.Low, .int .i64 d.Frame.High, .int .i64 d.Frame.Ease.Num, .int .i64 d.Frame.Ease.Den, .int .i64 d.Frame.Rod, .int .i64 d.Frame.Case, d_v7, d_v8].toArray, .agg [.int .i64 g.Force, .int .i64 g.At].toArray] H (fun H' v => ∃ ra_v0 : Value, v = .tuple [ra_v0, .int .i64 y.2].toArray ∧ SL H' 2 R_Span ra_v0 y.1) := by
  rw [F_gusts_Loads] at hF
  refine HC.of (N := 43) Try.func21 rfl rfl rfl fun w => ?_
  refine JC.seq ?_
  refine JC.region (by rfl) ?_
  intro hQ
  refine JL.box (cs := [d_v0, .int .i64 d.Frame.Low, .int .i64 d.Frame.High, .int .i64 d.Frame.Ease.Num, .int .i64 d.Frame.Ease.Den, .int .i64 d.Frame.Rod, .int .i64 d.Frame.Case, d_v7, d_v8]) rfl .none rfl ?_
  intro b1
  refine JL.box (cs := [.int .i64 g.Force, .int .i64 g.At]) rfl .none rfl ?_
  intro b2
  refine JL.assign .none rfl ?_
  refine JL.assign .none rfl ?_
  refine JL.done hQ ?_
  refine JQ.go ?_
  refine JC.seq ?_
  refine JC.seq ?_
  refine JC.region (by rfl) ?_
  intro hQ
  refine JL.loadOwn 1 az_30 rfl rfl rfl .none rfl ?_
  refine JL.loadOwn 0 az_32 rfl rfl rfl .none rfl ?_
  refine JL.buildSlice (e := 32) (l := [.int .i64 g.Force, .int .i64 g.At]) (by kernel_rfl) .none rfl ?_
  intro b3
  refine JL.freezeC 0 (l := [.int .i64 g.Force, .int .i64 g.At]) rfl ?_
  intro H4 hs4 hc5
  have hg6 : SL H4 2 R_Gust (.slice (some ⟨b3, 0, none⟩) 1 1) [g] := CH.sl (l := [g]) (CH.cons (cs := [.int .i64 g.Force, .int .i64 g.At]) rfl rfl CH.nil) hc5 ⟨by simp, by simp⟩
  obtain ⟨y7, hy7, hF⟩ := bind_some hF
  refine JL.callS (c_gusts_ask n H4 d d_v0 (SL.mono R_Section_mono hs4 hd_0) d_v7 (SL.mono R_Span_mono hs4 hd_7) d_v8 (SL.mono RInt.mono hs4 hd_8) [g] (.slice (some ⟨b3, 0, none⟩) 1 1) hg6 y7 hy7) rfl en_44 .none rfl ?_
  refine JL.assign .none rfl ?_
  refine JL.done hQ ?_
  refine JQ.go ?_
  refine JC.seq ?_
  refine JC.region (by rfl) ?_
  intro hQ
  refine JL.move .none rfl ?_
  refine JL.bin rfl rfl rfl .none rfl ?_
  refine JL.done hQ ?_
  refine JQ.go ?_
  rcases ite_some hF with ⟨hc8, hF⟩ | ⟨hc8, hF⟩
  · refine JC.cond_t (b := (y7 != 0)) rfl hc8 ?_
    refine JC.seq ?_
    refine JC.region (by rfl) ?_
    intro hQ
    refine JL.move .none rfl ?_
    refine JL.assign .none rfl ?_
    refine JL.assign .none rfl ?_
    refine JL.done hQ ?_
    refine JQ.go ?_
    refine JC.fresh (fun f => f 4 = .slice none 0 0 ∧ f 5 = .int .i64 y7) ⟨rfl, rfl⟩ ?_
    rintro f ⟨hf4, hf5⟩
    refine (JC.norm (i := 4) hf4 (JC.norm (i := 5) hf5 ?_))
    refine JC.ret ?_
    refine JQ.ret_then ?_
    obtain rfl := Option.some.inj hF
    exact JQ.outH rfl (.tmp (.tmp .nil)) ⟨(.slice none 0 0), rfl, SL.nil⟩
  · refine JC.cond_f (b := (y7 != 0)) rfl hc8 ?_
    refine JC.skip ?_
    refine JQ.go ?_
    refine JC.seq ?_
    refine JC.region (by rfl) ?_
    intro hQ
    refine JL.loadOwn 1 az_30 rfl rfl rfl .none rfl ?_
    obtain ⟨y9, hy9, hF⟩ := bind_some hF
    refine JL.callH (c_gusts_ends n H4 d d_v0 (SL.mono R_Section_mono hs4 hd_0) d_v7 (SL.mono R_Span_mono hs4 hd_7) d_v8 (SL.mono RInt.mono hs4 hd_8) y9 hy9) rfl en_45 .none rfl ?_
    rintro H10 vv11 hs10 ⟨y9a_v1, y9a_v2, y9b_v1, y9b_v2, rfl, hy9a_1, hy9a_2, hy9b_1, hy9b_2⟩
    refine JL.move .none rfl ?_
    refine JL.extract rfl rfl .none rfl ?_
    refine JL.extract rfl rfl .none rfl ?_
    refine JL.alloc ze_87 .none rfl ?_
    intro b12
    refine JL.alloc ze_87 .none rfl ?_
    intro b13
    refine JL.storeOwn 1 (cs := [.int .i64 y9.1.lift, y9a_v1, y9a_v2]) az_87 rfl rfl rfl (one_cons rfl (one_cons (SL.one hy9a_1) (one_cons (SL.one hy9a_2) one_nil))) rfl rfl .none ?_
    refine JL.storeOwn 0 (cs := [.int .i64 y9.2.lift, y9b_v1, y9b_v2]) az_87 rfl rfl rfl (one_cons rfl (one_cons (SL.one hy9b_1) (one_cons (SL.one hy9b_2) one_nil))) rfl rfl .none ?_
    refine JL.done hQ ?_
    refine JQ.go ?_
    refine JC.fresh (fun f => f 2 = .pointer (some ⟨b1, 0, none⟩) ∧ f 3 = .pointer (some ⟨b2, 0, none⟩) ∧ f 4 = .slice none 0 0 ∧ f 5 = .int .i64 0 ∧ f 7 = .pointer (some ⟨b12, 0, none⟩) ∧ f 8 = .pointer (some ⟨b13, 0, none⟩)) ⟨rfl, rfl, rfl, rfl, rfl, rfl⟩ ?_
    rintro f ⟨hf2, hf3, hf4, hf5, hf7, hf8⟩
    refine (JC.norm (i := 2) hf2 (JC.norm (i := 3) hf3 (JC.norm (i := 4) hf4 (JC.norm (i := 5) hf5 (JC.norm (i := 7) hf7 (JC.norm (i := 8) hf8 ?_))))))
    refine JC.seq ?_
    refine JC.region (by rfl) ?_
    intro hQ
    refine JL.assign .none rfl ?_
    refine JL.done hQ ?_
    refine JQ.go ?_
    refine JC.seq ?_
    refine JC.seq ?_
    refine JC.region (by rfl) ?_
    intro hQ
    refine JL.fieldAddr fo_30_1 rfl .none rfl ?_
    refine JL.loadOwn 3 az_27 rfl rfl rfl .none rfl ?_
    refine JL.lenSL (R := R_Span) ul_27 (SL.mono R_Span_mono (HSub.trans hs4 hs10) hd_7) .none rfl ?_
    refine JL.move .none rfl ?_
    refine JL.done hQ ?_
    refine JQ.go ?_
    refine JC.newNil (e := 38) (sz := 2) ?_
    obtain ⟨r104, hlr104, hKr104⟩ := bind_some hF
    refine JC.join (fun (out_102 : List Span) H103 f bs gs => ∃ (vout_102 : Value) (xsout_102 : List Value), f 9 = vout_102 ∧ bs = [] ∧ gs = [⟨vout_102, 38, 2, out_102.length, xsout_102⟩] ∧ CH H103 2 R_Span xsout_102 out_102 ∧ HSub H10 H103 ∧ out_102 = r104) ?_ ?_
    · skip
      refine JC.block ?_
      refine JC.mask [true, true, true, false] [true] ?_
      refine JC.loop hlr104 (fun (x : Int × List Span) H149 f bs gs => match x with | (x_147, out_148) => ∃ (vout_148 : Value) (xsout_148 : List Value), f 3 = .pointer (some ⟨b2, 0, none⟩) ∧ f 7 = .pointer (some ⟨b12, 0, none⟩) ∧ f 8 = .pointer (some ⟨b13, 0, none⟩) ∧ f 9 = vout_148 ∧ f 25 = .int .i64 (d.Ribs.length : Int) ∧ f 26 = .int .i64 x_147 ∧ bs = [(b13, .cells [.int .i64 y9.2.lift, y9b_v1, y9b_v2].toArray 87), (b12, .cells [.int .i64 y9.1.lift, y9a_v1, y9a_v2].toArray 87), (b2, .cells [.int .i64 g.Force, .int .i64 g.At].toArray 32)] ∧ gs = [⟨vout_148, 38, 2, out_148.length, xsout_148⟩] ∧ CH H149 2 R_Span xsout_148 out_148 ∧ HSub H10 H149) ⟨(.slice none 0 0), [], rfl, rfl, rfl, rfl, rfl, rfl, rfl, rfl, CH.nil, (HSub.refl _)⟩ ?_
      rintro ⟨x_147, out_148⟩ x151 H149 f bs gs ⟨vout_148, xsout_148, hf3, hf7, hf8, hf9, hf25, hf26, rfl, rfl, hout_148, hs149⟩ hF hr150
      rw [F_gusts_Loads_s1] at hF
      refine (JC.norm (i := 3) hf3 (JC.norm (i := 7) hf7 (JC.norm (i := 8) hf8 (JC.norm (i := 9) hf9 (JC.norm (i := 25) hf25 (JC.norm (i := 26) hf26 ?_))))))
      refine JC.seq ?_
      refine JC.region (by rfl) ?_
      intro hQ
      refine JL.bin rfl rfl rfl .none rfl ?_
      refine JL.done hQ ?_
      refine JQ.go ?_
      refine JC.seq ?_
      rcases ite_some hF with ⟨hc152, hF⟩ | ⟨hc152, hF⟩
      · refine JC.cond_t (b := decide (x_147 < (d.Ribs.length : Int))) rfl hc152 ?_
        refine JC.skip ?_
        refine JQ.go ?_
        refine JC.seq ?_
        refine JC.block ?_
        refine JC.seq ?_
        refine JC.region (by rfl) ?_
        intro hQ
        refine JL.move .none rfl ?_
        refine JL.assign .none rfl ?_
        refine JL.done hQ ?_
        refine JQ.go ?_
        obtain ⟨y155, hy155, hF⟩ := bind_some hF
        obtain ⟨y156, hy156, hF⟩ := bind_some hF
        obtain ⟨l158, hl158, hF⟩ := bind_some hF
        refine JC.mixed 13 13 #[false, false, false, false, false, false, false, false, false, false, false, false, false] [(b13, .cells [.int .i64 y9.2.lift, y9b_v1, y9b_v2].toArray 87), (b12, .cells [.int .i64 y9.1.lift, y9a_v1, y9a_v2].toArray 87), (b2, .cells [.int .i64 g.Force, .int .i64 g.At].toArray 32)] (by rfl) mo_ (by kernel_rfl) (by kernel_rfl) ?_
        intro hQ hE
        refine JA.take 0 (listed' := #[true, false, false, false, false, false, false, false, false, false, false, false, false]) hQ rfl (by kernel_rfl) (by kernel_rfl) (by kernel_rfl) (by kernel_rfl) (by kernel_rfl) hE (HSub.refl _) (.cons_cons _ (.cons_cons _ (.cons_cons _ (List.nil_sublist _)))) ?_
        refine JL.move .none rfl ?_
        refine JA.cont ?_
        refine JA.take 1 (listed' := #[true, true, false, false, false, false, false, false, false, false, false, false, false]) hQ rfl (by kernel_rfl) (by kernel_rfl) (by kernel_rfl) (by kernel_rfl) (by kernel_rfl) hE (HSub.refl _) (.cons_cons _ (.cons_cons _ (.cons_cons _ (List.nil_sublist _)))) ?_
        refine JL.loadOwn 1 az_87 rfl rfl rfl .none rfl ?_
        refine JA.cont ?_
        refine JA.take 2 (listed' := #[true, true, true, false, false, false, false, false, false, false, false, false, false]) hQ rfl (by kernel_rfl) (by kernel_rfl) (by kernel_rfl) (by kernel_rfl) (by kernel_rfl) hE (HSub.refl _) (.cons_cons _ (.cons_cons _ (.cons_cons _ (List.nil_sublist _)))) ?_
        refine JL.loadOwn 2 az_32 rfl rfl rfl .none rfl ?_
        refine JA.cont ?_
        refine JA.take 3 (listed' := #[true, true, true, true, false, false, false, false, false, false, false, false, false]) hQ rfl (by kernel_rfl) (by kernel_rfl) (by kernel_rfl) (by kernel_rfl) (by kernel_rfl) hE (HSub.refl _) (.cons_cons _ (.cons_cons _ (.cons_cons _ (List.nil_sublist _)))) ?_
        refine JL.move .none rfl ?_
        refine JA.cont ?_
        refine JA.take 5 (listed' := #[true, true, true, true, false, true, false, false, false, false, false, false, false]) hQ rfl (by kernel_rfl) (by kernel_rfl) (by kernel_rfl) (by kernel_rfl) (by kernel_rfl) hE (HSub.refl _) (.cons_cons _ (.cons_cons _ (.cons_cons _ (List.nil_sublist _)))) ?_
        refine JL.loadOwn 0 az_87 rfl rfl rfl .none rfl ?_
        refine JA.cont ?_
        refine JA.take 6 (listed' := #[true, true, true, true, false, true, true, false, false, false, false, false, false]) hQ rfl (by kernel_rfl) (by kernel_rfl) (by kernel_rfl) (by kernel_rfl) (by kernel_rfl) hE (HSub.refl _) (.cons_cons _ (.cons_cons _ (.cons_cons _ (List.nil_sublist _)))) ?_
        refine JL.loadOwn 2 az_32 rfl rfl rfl .none rfl ?_
        refine JA.cont ?_
        refine JA.take 7 (listed' := #[true, true, true, true, false, true, true, true, false, false, false, false, false]) hQ rfl (by kernel_rfl) (by kernel_rfl) (by kernel_rfl) (by kernel_rfl) (by kernel_rfl) hE (HSub.refl _) (.cons_cons _ (.cons_cons _ (.cons_cons _ (List.nil_sublist _)))) ?_
        refine JL.move .none rfl ?_
        refine JA.cont ?_
        refine JA.many [4] (by kernel_rfl) (by simp) (all_one ⟨_, #[true, true, true, true, true, true, true, true, false, false, false, false, false], rfl, (by kernel_rfl), ?_⟩)
        refine JL.callS (c_gusts_blown_load n H149 y9.1 y9a_v1 (SL.mono RInt.mono hs149 hy9a_1) y9a_v2 (SL.mono RInt.mono hs149 hy9a_2) g x_147 y155 hy155) rfl en_58 .none rfl ?_
        refine JA.after hE (HSub.refl _) (.cons_cons _ (.cons_cons _ (.cons_cons _ (List.nil_sublist _)))) ?_
        refine JA.many [8] (by kernel_rfl) (by simp) (all_one ⟨_, #[true, true, true, true, true, true, true, true, true, false, false, false, false], rfl, (by kernel_rfl), ?_⟩)
        refine JL.callS (c_gusts_blown_load n H149 y9.2 y9b_v1 (SL.mono RInt.mono hs149 hy9b_1) y9b_v2 (SL.mono RInt.mono hs149 hy9b_2) g x_147 y156 hy156) rfl en_58 .none rfl ?_
        refine JA.after hE (HSub.refl _) (.cons_cons _ (.cons_cons _ (.cons_cons _ (List.nil_sublist _)))) ?_
        refine JA.take 9 (listed' := #[true, true, true, true, true, true, true, true, true, true, false, false, false]) hQ rfl (by kernel_rfl) (by kernel_rfl) (by kernel_rfl) (by kernel_rfl) (by kernel_rfl) hE (HSub.refl _) (.cons_cons _ (.cons_cons _ (.cons_cons _ (List.nil_sublist _)))) ?_
        refine JL.build (l := [.int .i64 y155, .int .i64 y156]) (by kernel_rfl) .none rfl ?_
        refine JA.cont ?_
        refine JA.many [10] (by kernel_rfl) (by simp) (all_one ⟨_, #[true, true, true, true, true, true, true, true, true, true, true, false, false], rfl, (by kernel_rfl), ?_⟩)
        refine JL.buildSlice (e := 38) (l := [.int .i64 y155, .int .i64 y156]) (by kernel_rfl) .none rfl ?_
        intro b166
        refine JA.after hE (HSub.refl _) (.cons _ (.cons_cons _ (.cons_cons _ (.cons_cons _ (List.nil_sublist _))))) ?_
        refine JA.many [11] (by kernel_rfl) (by simp) (all_one ⟨_, #[true, true, true, true, true, true, true, true, true, true, true, true, false], rfl, (by kernel_rfl), ?_⟩)
        refine JL.appO (R := R_Span) 0 0 (l := out_148) (m := [(Span.mk y155 y156)]) ap_27 rfl ⟨rfl, rfl⟩ rfl hout_148 rfl rfl rfl (CH.cons (cs := [.int .i64 y155, .int .i64 y156]) rfl rfl CH.nil) rfl (one_cons rfl (one_cons rfl one_nil)) hl158 .none rfl ?_
        intro v167 xs168 hch169
        refine JA.after hE (HSub.refl _) (.cons _ (.cons_cons _ (.cons_cons _ (.cons_cons _ (List.nil_sublist _))))) ?_
        refine JA.take 12 (listed' := #[true, true, true, true, true, true, true, true, true, true, true, true, true]) hQ rfl (by kernel_rfl) (by kernel_rfl) (by kernel_rfl) (by kernel_rfl) (by kernel_rfl) hE (HSub.refl _) (.cons _ (.cons_cons _ (.cons_cons _ (.cons_cons _ (List.nil_sublist _))))) ?_
        refine JL.assign .none rfl ?_
        refine JA.cont ?_
        refine JA.done hQ (by kernel_rfl) ?_
        refine JQ.normal_block ?_
        refine JQ.go ?_
        refine JC.fresh (fun f => f 3 = .pointer (some ⟨b2, 0, none⟩) ∧ f 7 = .pointer (some ⟨b12, 0, none⟩) ∧ f 8 = .pointer (some ⟨b13, 0, none⟩) ∧ f 9 = v167 ∧ f 25 = .int .i64 (d.Ribs.length : Int) ∧ f 26 = .int .i64 x_147) ⟨rfl, rfl, rfl, rfl, rfl, rfl⟩ ?_
        rintro f ⟨hf3, hf7, hf8, hf9, hf25, hf26⟩
        refine (JC.norm (i := 3) hf3 (JC.norm (i := 7) hf7 (JC.norm (i := 8) hf8 (JC.norm (i := 9) hf9 (JC.norm (i := 25) hf25 (JC.norm (i := 26) hf26 ?_))))))
        refine JC.region (by rfl) ?_
        intro hQ
        refine JL.bin rfl rfl rfl .none rfl ?_
        refine JL.move .none rfl ?_
        refine JL.done hQ ?_
        obtain rfl := Option.some.inj hF
        refine JQ.mask [false, true, true, true] [true] ?_
        exact JQ.next rfl ⟨v167, xs168, rfl, rfl, rfl, rfl, rfl, rfl, rfl, rfl, hch169, hs149⟩
      · refine JC.cond_f (b := decide (x_147 < (d.Ribs.length : Int))) rfl hc152 ?_
        refine JC.exit ?_
        refine JQ.exit_then ?_
        refine JQ.exit_then ?_
        refine JQ.exit_block ?_
        obtain rfl := Option.some.inj hF
        have ehr150 := hr150 _ rfl
        subst ehr150
        refine JQ.mask [false, false, false] [true] ?_
        exact JQ.join out_148 ⟨vout_148, xsout_148, rfl, rfl, rfl, hout_148, hs149, rfl⟩
    · rintro out_102 H103 f bs gs ⟨vout_102, xsout_102, hf9, rfl, rfl, hout_102, hs103, rfl⟩
      have hF := hKr104
      try dsimp only at hF
      refine (JQ.norm (i := 9) hf9 ?_)
      refine JQ.go ?_
      refine JC.seq ?_
      refine JC.region (by rfl) ?_
      intro hQ
      refine JL.move .none rfl ?_
      refine JL.assign .none rfl ?_
      refine JL.assign .none rfl ?_
      refine JL.done hQ ?_
      refine JQ.go ?_
      refine JC.ret ?_
      refine JQ.freezeG 0 (R := R_Span) rfl R_Span_mono hout_102 rfl ?_
      intro H170 hs170 hg171
      obtain rfl := Option.some.inj hF
      exact JQ.outH rfl (.tmp (.tmp .nil)) ⟨vout_102, rfl, hg171⟩

-- 59 ferrule/ferruleref05.check
def F_ref05_check (n : Nat) (d : Canopy) (class_ : List Gust) : Option Int :=
  (F_ref05_Check n d).bind fun y2 => if (y2 != 0) = true then (some y2) else ((F_ref05_IsClass n d class_).bind fun y4 => if (!y4) = true then (some 1) else (some 0))
set_option maxRecDepth 100000 in
set_option maxHeartbeats 40000000 in
theorem c_ref05_check (n : Nat) (H : Hp) (d : Canopy) (d_v0 : Value) (hd_0 : SL H 7 R_Section d_v0 d.Frame.Sections) (d_v7 : Value) (hd_7 : SL H 2 R_Span d_v7 d.Ribs) (d_v8 : Value) (hd_8 : SL H 1 RInt d_v8 d.Shares) (class_ : List Gust) (class__v0 : Value) (hclass__0 : SL H 2 R_Gust class__v0 class_) (y : Int) (hF : F_ref05_check n d class_ = some y) : SC Try.prog 59 [.agg [d_v0, .int .i64 d.Frame.Low, .int .i64 d.Frame.High, .int .i64 d.Frame.Ease.Num, .int .i64 d.Frame.Ease.Den, .int .i64 d.Frame.Rod, .int .i64 d.Frame.Case, d_v7, d_v8].toArray, class__v0] (.int .i64 y) H := by
  rw [F_ref05_check] at hF
  refine SC.of (N := 15) Try.func59 rfl rfl rfl fun w => ?_
  refine JC.seq ?_
  refine JC.region (by rfl) ?_
  intro hQ
  refine JL.box (cs := [d_v0, .int .i64 d.Frame.Low, .int .i64 d.Frame.High, .int .i64 d.Frame.Ease.Num, .int .i64 d.Frame.Ease.Den, .int .i64 d.Frame.Rod, .int .i64 d.Frame.Case, d_v7, d_v8]) rfl .none rfl ?_
  intro b1
  refine JL.assign .none rfl ?_
  refine JL.done hQ ?_
  refine JQ.go ?_
  refine JC.seq ?_
  refine JC.seq ?_
  refine JC.region (by rfl) ?_
  intro hQ
  refine JL.loadOwn 0 az_30 rfl rfl rfl .none rfl ?_
  obtain ⟨y2, hy2, hF⟩ := bind_some hF
  refine JL.callS (c_ref05_Check n H d d_v0 hd_0 d_v7 hd_7 d_v8 hd_8 y2 hy2) rfl en_18 .none rfl ?_
  refine JL.assign .none rfl ?_
  refine JL.done hQ ?_
  refine JQ.go ?_
  refine JC.seq ?_
  refine JC.region (by rfl) ?_
  intro hQ
  refine JL.move .none rfl ?_
  refine JL.bin rfl rfl rfl .none rfl ?_
  refine JL.done hQ ?_
  refine JQ.go ?_
  rcases ite_some hF with ⟨hc3, hF⟩ | ⟨hc3, hF⟩
  · refine JC.cond_t (b := (y2 != 0)) rfl hc3 ?_
    refine JC.seq ?_
    refine JC.region (by rfl) ?_
    intro hQ
    refine JL.move .none rfl ?_
    refine JL.assign .none rfl ?_
    refine JL.done hQ ?_
    refine JQ.go ?_
    refine JC.ret ?_
    refine JQ.ret_then ?_
    obtain rfl := Option.some.inj hF
    exact JQ.outS rfl (.tmp .nil) rfl
  · refine JC.cond_f (b := (y2 != 0)) rfl hc3 ?_
    refine JC.skip ?_
    refine JQ.go ?_
    refine JC.seq ?_
    refine JC.seq ?_
    refine JC.region (by rfl) ?_
    intro hQ
    refine JL.loadOwn 0 az_30 rfl rfl rfl .none rfl ?_
    refine JL.move .none rfl ?_
    obtain ⟨y4, hy4, hF⟩ := bind_some hF
    refine JL.callS (c_ref05_IsClass n H d d_v0 hd_0 d_v7 hd_7 d_v8 hd_8 class_ class__v0 hclass__0 y4 hy4) rfl en_41 .none rfl ?_
    refine JL.not rfl .none rfl ?_
    refine JL.done hQ ?_
    refine JQ.go ?_
    rcases ite_some hF with ⟨hc5, hF⟩ | ⟨hc5, hF⟩
    · refine JC.cond_t (b := (!y4)) rfl hc5 ?_
      refine JC.seq ?_
      refine JC.region (by rfl) ?_
      intro hQ
      refine JL.assign .none rfl ?_
      refine JL.done hQ ?_
      refine JQ.go ?_
      refine JC.ret ?_
      refine JQ.ret_then ?_
      obtain rfl := Option.some.inj hF
      exact JQ.outS rfl (.tmp .nil) rfl
    · refine JC.cond_f (b := (!y4)) rfl hc5 ?_
      refine JC.skip ?_
      refine JQ.go ?_
      refine JC.seq ?_
      refine JC.region (by rfl) ?_
      intro hQ
      refine JL.assign .none rfl ?_
      refine JL.done hQ ?_
      refine JQ.go ?_
      refine JC.ret ?_
      obtain rfl := Option.some.inj hF
      exact JQ.outS rfl (.tmp .nil) rfl

end Go.Proofs.Ytcpnnfdhafbemaa
