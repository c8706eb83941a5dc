/-
  A part of the proof of WeWeak: the texts WeGenK8, WeGenK9.
-/
import Derived.Test.YteihdclpiekmaaaJWeWeak6
section
set_option maxRecDepth 100000
set_option maxHeartbeats 40000000
namespace Go.Proofs.Yteihdclpiekmaaa
open Go Go.RowKit Go.Dec
set_option linter.unusedVariables false
-- 101 ferrule/counts.Forces
noncomputable def F_counts_Forces_s1 (n : Nat) (r : Run) (blow : Int) : Int × List Int → Option ((Int × List Int) ⊕ (List Int))
 | (force_210, out_211) => (geti r.Blows blow).bind fun y215 => if decide (force_210 ≤ y215.Force.High) = true then ((F_counts_fixed n r blow force_210).bind fun y221 => (F_counts_open n y221 true (fun a0_ a1_ => F_counts_none n a0_ a1_)).bind fun y224 => (if (y224.2.2 == 0) = true then ((lim (out_211 ++ [force_210])).bind fun l238 => some l238) else (some out_211)).bind fun out_233 => some (Sum.inl ((w64 (force_210 + 1)), out_233))) else (some (Sum.inr out_211))
noncomputable def F_counts_Forces (n : Nat) (r : Run) (blow : Int) : Option ((List Int) × Int) :=
 (F_counts_within n blow 0 (w64 ((r.Blows.length : Int) - 1))).bind fun y4 => (F_counts_open n r y4 (fun a0_ a1_ => F_counts_none n a0_ a1_)).bind fun y5 => if (y5.2.2 != 0) = true then (some (([] : List Int), y5.2.2)) else ((geti r.Blows blow).bind fun y13 => (loopO n (F_counts_Forces_s1 n r blow) (y13.Force.Low, ([] : List Int))).bind fun out_147 => some (out_147, 0))
theorem c_counts_Forces (n : Nat) (H : Hp) (r : Run) (r_v0 : Value) (hr_0 : SL H 7 R_Section r_v0 r.Canopy.Frame.Sections) (r_v7 : Value) (hr_7 : SL H 2 R_Span r_v7 r.Canopy.Ribs) (r_v8 : Value) (hr_8 : SL H 1 RInt r_v8 r.Canopy.Shares) (r_v9 : Value) (hr_9 : SL H 3 R_Blow r_v9 r.Blows) (r_v10 : Value) (hr_10 : SL H 2 R_Meter r_v10 r.Meters) (blow : Int) (y : (List Int) × Int) (hF : F_counts_Forces n r blow = some y) : HC Try.prog 101 [.agg [r_v0, .int .i64 r.Canopy.Frame.Low, .int .i64 r.Canopy.Frame.High, .int .i64 r.Canopy.Frame.Ease.Num, .int .i64 r.Canopy.Frame.Ease.Den, .int .i64 r.Canopy.Frame.Rod, .int .i64 r.Canopy.Frame.Case, r_v7, r_v8, r_v9, r_v10, .int .i64 r.Wrong].toArray, .int .i64 blow] H (fun H' v => ∃ ra_v0 : Value, v = .tuple [ra_v0, .int .i64 y.2].toArray ∧ SL H' 1 RInt ra_v0 y.1) := by
 rw [F_counts_Forces] at hF
 refine HC.of (N := 63) Try.func101 rfl rfl rfl fun w => ?_
 refine JC.seq (JC.region (by rfl) ?_)
 intro hQ
 refine JL.box (cs := [r_v0, .int .i64 r.Canopy.Frame.Low, .int .i64 r.Canopy.Frame.High, .int .i64 r.Canopy.Frame.Ease.Num, .int .i64 r.Canopy.Frame.Ease.Den, .int .i64 r.Canopy.Frame.Rod, .int .i64 r.Canopy.Frame.Case, r_v7, r_v8, r_v9, r_v10, .int .i64 r.Wrong]) rfl .none rfl ?_
 intro b1
 refine JL.assign .none rfl ?_
 refine JL.assign .none rfl ?_
 refine JL.done hQ (JQ.go (JC.seq (JC.seq ?_)))
 obtain ⟨y4, hy4, hF⟩ := bind_some hF
 obtain ⟨y5, hy5, hF⟩ := bind_some hF
 refine JC.mixed 15 15 #[false, false, false, false, false, false, false, false, false, false, false, false, false, false, false] [(b1, .cells [r_v0, .int .i64 r.Canopy.Frame.Low, .int .i64 r.Canopy.Frame.High, .int .i64 r.Canopy.Frame.Ease.Num, .int .i64 r.Canopy.Frame.Ease.Den, .int .i64 r.Canopy.Frame.Rod, .int .i64 r.Canopy.Frame.Case, r_v7, r_v8, r_v9, r_v10, .int .i64 r.Wrong].toArray 90)] (by rfl) mo_ (by kernel_rfl) (by kernel_rfl) ?_
 intro hQ hE
 refine JA.take 0 (listed' := #[true, false, false, false, false, false, false, false, false, false, false, false, false, false, false]) hQ rfl (by kernel_rfl) (by kernel_rfl) (by kernel_rfl) (by kernel_rfl) (by kernel_rfl) hE (HSub.refl _) (.cons_cons _ (List.nil_sublist _)) ?_
 refine JL.loadOwn 0 az_90 rfl rfl rfl .none rfl ?_
 refine JA.cont ?_
 refine JA.take 1 (listed' := #[true, true, false, false, false, false, false, false, false, false, false, false, false, false, false]) hQ rfl (by kernel_rfl) (by kernel_rfl) (by kernel_rfl) (by kernel_rfl) (by kernel_rfl) hE (HSub.refl _) (.cons_cons _ (List.nil_sublist _)) ?_
 refine JL.move .none rfl ?_
 refine JA.cont ?_
 refine JA.take 2 (listed' := #[true, true, true, false, false, false, false, false, false, false, false, false, false, false, false]) hQ rfl (by kernel_rfl) (by kernel_rfl) (by kernel_rfl) (by kernel_rfl) (by kernel_rfl) hE (HSub.refl _) (.cons_cons _ (List.nil_sublist _)) ?_
 refine JL.fieldAddr fo_90_1 rfl .none rfl ?_
 refine JA.cont ?_
 refine JA.take 3 (listed' := #[true, true, true, true, false, false, false, false, false, false, false, false, false, false, false]) hQ rfl (by kernel_rfl) (by kernel_rfl) (by kernel_rfl) (by kernel_rfl) (by kernel_rfl) hE (HSub.refl _) (.cons_cons _ (List.nil_sublist _)) ?_
 refine JL.loadOwn 0 az_87 rfl rfl rfl .none rfl ?_
 refine JA.cont ?_
 refine JA.take 4 (listed' := #[true, true, true, true, true, false, false, false, false, false, false, false, false, false, false]) hQ rfl (by kernel_rfl) (by kernel_rfl) (by kernel_rfl) (by kernel_rfl) (by kernel_rfl) hE (HSub.refl _) (.cons_cons _ (List.nil_sublist _)) ?_
 refine JL.lenSL (R := R_Blow) ul_87 hr_9 .none rfl ?_
 refine JA.cont ?_
 refine JA.take 5 (listed' := #[true, true, true, true, true, true, false, false, false, false, false, false, false, false, false]) hQ rfl (by kernel_rfl) (by kernel_rfl) (by kernel_rfl) (by kernel_rfl) (by kernel_rfl) hE (HSub.refl _) (.cons_cons _ (List.nil_sublist _)) ?_
 refine JL.bin rfl rfl rfl .none rfl ?_
 refine JA.cont ?_
 refine JA.many [6] (by kernel_rfl) (by simp) (all_one ⟨_, #[true, true, true, true, true, true, true, false, false, false, false, false, false, false, false], rfl, (by kernel_rfl), ?_⟩)
 refine JL.callS (c_counts_within n H blow 0 (w64 ((r.Blows.length : Int) - 1)) y4 hy4) rfl en_152 .none rfl ?_
 refine JA.after hE (HSub.refl _) (.cons_cons _ (List.nil_sublist _)) ?_
 refine JA.many [7] (by kernel_rfl) (by simp) (all_one ⟨_, #[true, true, true, true, true, true, true, true, false, false, false, false, false, false, false], rfl, (by kernel_rfl), ?_⟩)
 refine JL.callH (c_counts_open n H r r_v0 hr_0 r_v7 hr_7 r_v8 hr_8 r_v9 hr_9 r_v10 hr_10 y4 (fun a0_ a1_ => F_counts_none n a0_ a1_) 149 [] en_149 (fun H' hs' a0_ a1_ y' hy' => c_counts_none n H' a0_ a1_ y' hy') y5 hy5) rfl en_148 .none rfl ?_
 rintro H10 vv11 hs10 ⟨y5a_v0, y5b_v0, rfl, hy5a_0, hy5b_0⟩
 refine JA.after hE hs10 (.cons_cons _ (List.nil_sublist _)) ?_
 refine JA.take 8 (listed' := #[true, true, true, true, true, true, true, true, true, false, false, false, false, false, false]) hQ rfl (by kernel_rfl) (by kernel_rfl) (by kernel_rfl) (by kernel_rfl) (by kernel_rfl) hE hs10 (.cons_cons _ (List.nil_sublist _)) ?_
 refine JL.move .none rfl ?_
 refine JA.cont ?_
 refine JA.take 9 (listed' := #[true, true, true, true, true, true, true, true, true, true, false, false, false, false, false]) hQ rfl (by kernel_rfl) (by kernel_rfl) (by kernel_rfl) (by kernel_rfl) (by kernel_rfl) hE hs10 (.cons_cons _ (List.nil_sublist _)) ?_
 refine JL.extract rfl rfl .none rfl ?_
 refine JA.cont ?_
 refine JA.take 10 (listed' := #[true, true, true, true, true, true, true, true, true, true, true, false, false, false, false]) hQ rfl (by kernel_rfl) (by kernel_rfl) (by kernel_rfl) (by kernel_rfl) (by kernel_rfl) hE hs10 (.cons_cons _ (List.nil_sublist _)) ?_
 refine JL.extract rfl rfl .none rfl ?_
 refine JA.cont ?_
 refine JA.take 11 (listed' := #[true, true, true, true, true, true, true, true, true, true, true, true, false, false, false]) hQ rfl (by kernel_rfl) (by kernel_rfl) (by kernel_rfl) (by kernel_rfl) (by kernel_rfl) hE hs10 (.cons_cons _ (List.nil_sublist _)) ?_
 refine JL.extract rfl rfl .none rfl ?_
 refine JA.cont ?_
 refine JA.take 12 (listed' := #[true, true, true, true, true, true, true, true, true, true, true, true, true, false, false]) hQ rfl (by kernel_rfl) (by kernel_rfl) (by kernel_rfl) (by kernel_rfl) (by kernel_rfl) hE hs10 (.cons_cons _ (List.nil_sublist _)) ?_
 refine JL.assign .none rfl ?_
 refine JA.cont ?_
 refine JA.take 13 (listed' := #[true, true, true, true, true, true, true, true, true, true, true, true, true, true, false]) hQ rfl (by kernel_rfl) (by kernel_rfl) (by kernel_rfl) (by kernel_rfl) (by kernel_rfl) hE hs10 (.cons_cons _ (List.nil_sublist _)) ?_
 refine JL.assign .none rfl ?_
 refine JA.cont ?_
 refine JA.take 14 (listed' := #[true, true, true, true, true, true, true, true, true, true, true, true, true, true, true]) hQ rfl (by kernel_rfl) (by kernel_rfl) (by kernel_rfl) (by kernel_rfl) (by kernel_rfl) hE hs10 (.cons_cons _ (List.nil_sublist _)) ?_
 refine JL.assign .none rfl ?_
 refine JA.cont ?_
 refine JA.done hQ (by kernel_rfl) ?_
 refine JQ.go (JC.fresh (fun f => f 1 = .int .i64 blow ∧ f 2 = .pointer (some ⟨b1, 0, none⟩) ∧ f 4 = .slice none 0 0 ∧ f 5 = .int .i64 0 ∧ f 8 = .int .i64 y5.2.2) ⟨rfl, rfl, rfl, rfl, rfl⟩ ?_)
 rintro f ⟨hf1, hf2, hf4, hf5, hf8⟩
 refine (JC.norm (i := 1) hf1 (JC.norm (i := 2) hf2 (JC.norm (i := 4) hf4 (JC.norm (i := 5) hf5 (JC.norm (i := 8) hf8 ?_)))))
 refine JC.seq (JC.region (by rfl) ?_)
 intro hQ
 refine JL.move .none rfl ?_
 refine JL.bin rfl rfl rfl .none rfl ?_
 refine JL.done hQ (JQ.go ?_)
 rcases ite_some hF with ⟨hc12, hF⟩ | ⟨hc12, hF⟩
 ·refine JC.cond_t (b := (y5.2.2 != 0)) rfl hc12 ?_
  refine JC.seq (JC.region (by rfl) ?_)
  intro hQ
  refine JL.move .none rfl ?_
  refine JL.assign .none rfl ?_
  refine JL.assign .none rfl ?_
  refine JL.done hQ (JQ.go (JC.ret (JQ.ret_then ?_)))
  obtain rfl := Option.some.inj hF
  exact JQ.outH rfl (.tmp (.tmp .nil)) ⟨(.slice none 0 0), rfl, SL.nil⟩
 ·refine JC.cond_f (b := (y5.2.2 != 0)) rfl hc12 ?_
  refine JC.skip (JQ.go (JC.seq (JC.region (by rfl) ?_)))
  intro hQ
  refine JL.assign .none rfl ?_
  refine JL.done hQ (JQ.go (JC.seq (JC.seq (JC.region (by rfl) ?_))))
  intro hQ
  refine JL.fieldAddr fo_90_1 rfl .none rfl ?_
  refine JL.loadOwn 0 az_87 rfl rfl rfl .none rfl ?_
  refine JL.move .none rfl ?_
  obtain ⟨y13, hy13, hF⟩ := bind_some hF
  refine JL.indexSL (R := R_Blow) sl_87 (SL.mono R_Blow_mono hs10 hr_9) rfl hy13 .none rfl ?_
  rintro b14 o15 cs16 hc17 - rfl
  refine JL.fieldAddr fo_98_1 rfl .none rfl ?_
  refine JL.fieldAddr fo_39_0 rfl .none rfl ?_
  refine JL.loadH 1 az_3 rfl hc17 rfl .none rfl ?_
  refine JL.assign .none rfl ?_
  refine JL.done hQ (JQ.go (JC.fresh (fun f => f 1 = .int .i64 blow ∧ f 2 = .pointer (some ⟨b1, 0, none⟩) ∧ f 4 = .slice none 0 0 ∧ f 5 = .int .i64 0 ∧ f 9 = .slice none 0 0 ∧ f 10 = .int .i64 y13.Force.Low) ⟨rfl, rfl, rfl, rfl, rfl, rfl⟩ ?_))
  rintro f ⟨hf1, hf2, hf4, hf5, hf9, hf10⟩
  refine (JC.norm (i := 1) hf1 (JC.norm (i := 2) hf2 (JC.norm (i := 4) hf4 (JC.norm (i := 5) hf5 (JC.norm (i := 9) hf9 (JC.norm (i := 10) hf10 ?_))))))
  refine JC.newNil (e := 3) (sz := 1) ?_
  obtain ⟨r149, hlr149, hKr149⟩ := bind_some hF
  refine JC.join (fun (out_147 : List Int) H148 f bs gs => ∃ (vout_147 : Value) (xsout_147 : List Value), f 9 = vout_147 ∧ bs = [] ∧ gs = [⟨vout_147, 3, 1, out_147.length, xsout_147⟩] ∧ CH H148 1 RInt xsout_147 out_147 ∧ HSub H10 H148 ∧ out_147 = r149) ?_ ?_
  ·skip
   refine JC.block (JC.loop hlr149 (fun (x : Int × List Int) H212 f bs gs => match x with | (force_210, out_211) => ∃ (vout_211 : Value) (xsout_211 : List Value), f 1 = .int .i64 blow ∧ f 2 = .pointer (some ⟨b1, 0, none⟩) ∧ f 9 = vout_211 ∧ f 10 = .int .i64 force_210 ∧ bs = [(b1, .cells [r_v0, .int .i64 r.Canopy.Frame.Low, .int .i64 r.Canopy.Frame.High, .int .i64 r.Canopy.Frame.Ease.Num, .int .i64 r.Canopy.Frame.Ease.Den, .int .i64 r.Canopy.Frame.Rod, .int .i64 r.Canopy.Frame.Case, r_v7, r_v8, r_v9, r_v10, .int .i64 r.Wrong].toArray 90)] ∧ gs = [⟨vout_211, 3, 1, out_211.length, xsout_211⟩] ∧ CH H212 1 RInt xsout_211 out_211 ∧ HSub H10 H212) ⟨(.slice none 0 0), [], rfl, rfl, rfl, rfl, rfl, rfl, CH.nil, (HSub.refl _)⟩ ?_)
   rintro ⟨force_210, out_211⟩ x214 H212 f bs gs ⟨vout_211, xsout_211, hf1, hf2, hf9, hf10, rfl, rfl, hout_211, hs212⟩ hF hr213
   rw [F_counts_Forces_s1] at hF
   refine (JC.norm (i := 1) hf1 (JC.norm (i := 2) hf2 (JC.norm (i := 9) hf9 (JC.norm (i := 10) hf10 ?_))))
   refine JC.seq (JC.seq (JC.region (by rfl) ?_))
   intro hQ
   refine JL.move .none rfl ?_
   refine JL.fieldAddr fo_90_1 rfl .none rfl ?_
   refine JL.loadOwn 0 az_87 rfl rfl rfl .none rfl ?_
   refine JL.move .none rfl ?_
   obtain ⟨y215, hy215, hF⟩ := bind_some hF
   refine JL.indexSL (R := R_Blow) sl_87 (SL.mono R_Blow_mono (HSub.trans hs10 hs212) hr_9) rfl hy215 .none rfl ?_
   rintro b216 o217 cs218 hc219 - rfl
   refine JL.fieldAddr fo_98_1 rfl .none rfl ?_
   refine JL.fieldAddr fo_39_1 rfl .none rfl ?_
   refine JL.loadH 2 az_3 rfl hc219 rfl .none rfl ?_
   refine JL.bin rfl rfl rfl .none rfl ?_
   refine JL.done hQ (JQ.go ?_)
   rcases ite_some hF with ⟨hc220, hF⟩ | ⟨hc220, hF⟩
   ·refine JC.cond_t (b := decide (force_210 ≤ y215.Force.High)) rfl hc220 ?_
    refine JC.skip (JQ.go (JC.seq (JC.block (JC.seq (JC.region (by rfl) ?_)))))
    intro hQ
    refine JL.loadOwn 0 az_90 rfl rfl rfl .none rfl ?_
    refine JL.move .none rfl ?_
    refine JL.move .none rfl ?_
    obtain ⟨y221, hy221, hF⟩ := bind_some hF
    refine JL.callH (c_counts_fixed n H212 r r_v0 (SL.mono R_Section_mono (HSub.trans hs10 hs212) hr_0) r_v7 (SL.mono R_Span_mono (HSub.trans hs10 hs212) hr_7) r_v8 (SL.mono RInt.mono (HSub.trans hs10 hs212) hr_8) r_v9 (SL.mono R_Blow_mono (HSub.trans hs10 hs212) hr_9) r_v10 (SL.mono R_Meter_mono (HSub.trans hs10 hs212) hr_10) blow force_210 y221 hy221) rfl en_153 .none rfl ?_
    rintro H222 vv223 hs222 ⟨y221a_v0, y221a_v7, y221a_v8, y221a_v9, y221a_v10, rfl, hy221a_0, hy221a_7, hy221a_8, hy221a_9, hy221a_10⟩
    obtain ⟨y224, hy224, hF⟩ := bind_some hF
    refine JL.callH (c_counts_open n H222 y221 y221a_v0 hy221a_0 y221a_v7 hy221a_7 y221a_v8 hy221a_8 y221a_v9 hy221a_9 y221a_v10 hy221a_10 true (fun a0_ a1_ => F_counts_none n a0_ a1_) 149 [] en_149 (fun H' hs' a0_ a1_ y' hy' => c_counts_none n H' a0_ a1_ y' hy') y224 hy224) rfl en_148 .none rfl ?_
    rintro H225 vv226 hs225 ⟨y224a_v0, y224b_v0, rfl, hy224a_0, hy224b_0⟩
    refine JL.move .none rfl ?_
    refine JL.extract rfl rfl .none rfl ?_
    refine JL.extract rfl rfl .none rfl ?_
    refine JL.extract rfl rfl .none rfl ?_
    refine JL.assign .none rfl ?_
    refine JL.assign .none rfl ?_
    refine JL.assign .none rfl ?_
    refine JL.done hQ (JQ.go (JC.fresh (fun f => f 1 = .int .i64 blow ∧ f 2 = .pointer (some ⟨b1, 0, none⟩) ∧ f 9 = vout_211 ∧ f 10 = .int .i64 force_210 ∧ f 13 = .int .i64 y224.2.2) ⟨rfl, rfl, rfl, rfl, rfl⟩ ?_))
    rintro f ⟨hf1, hf2, hf9, hf10, hf13⟩
    refine (JC.norm (i := 1) hf1 (JC.norm (i := 2) hf2 (JC.norm (i := 9) hf9 (JC.norm (i := 10) hf10 (JC.norm (i := 13) hf13 ?_)))))
    refine JC.seq (JC.region (by rfl) ?_)
    intro hQ
    refine JL.move .none rfl ?_
    refine JL.bin rfl rfl rfl .none rfl ?_
    refine JL.done hQ (JQ.go ?_)
    obtain ⟨r235, hlr235, hKr235⟩ := bind_some hF
    refine JC.join (fun (out_233 : List Int) H234 f bs gs => ∃ (vout_233 : Value) (xsout_233 : List Value), f 1 = .int .i64 blow ∧ f 2 = .pointer (some ⟨b1, 0, none⟩) ∧ f 9 = vout_233 ∧ f 10 = .int .i64 force_210 ∧ bs = [(b1, .cells [r_v0, .int .i64 r.Canopy.Frame.Low, .int .i64 r.Canopy.Frame.High, .int .i64 r.Canopy.Frame.Ease.Num, .int .i64 r.Canopy.Frame.Ease.Den, .int .i64 r.Canopy.Frame.Rod, .int .i64 r.Canopy.Frame.Case, r_v7, r_v8, r_v9, r_v10, .int .i64 r.Wrong].toArray 90)] ∧ gs = [⟨vout_233, 3, 1, out_233.length, xsout_233⟩] ∧ CH H234 1 RInt xsout_233 out_233 ∧ HSub H225 H234 ∧ out_233 = r235) ?_ ?_
    ·have hF := hlr235
     rcases ite_some hF with ⟨hc236, hF⟩ | ⟨hc236, hF⟩
     ·refine JC.cond_t (b := (y224.2.2 == 0)) rfl hc236 ?_
      refine JC.region (by rfl) ?_
      intro hQ
      refine JL.move .none rfl ?_
      refine JL.move .none rfl ?_
      refine JL.buildSlice (e := 3) (l := [.int .i64 force_210]) (by kernel_rfl) .none rfl ?_
      intro b237
      obtain ⟨l238, hl238, hF⟩ := bind_some hF
      refine JL.appO (R := RInt) 0 0 (l := out_211) (m := [force_210]) ap_23 rfl ⟨rfl, rfl⟩ rfl (CH.mono RInt.mono (HSub.trans hs222 hs225) hout_211) rfl rfl rfl (CH.cons (cs := [.int .i64 force_210]) rfl rfl CH.nil) rfl (one_cons rfl one_nil) hl238 .none rfl ?_
      intro v239 xs240 hch241
      refine JL.assign .none rfl ?_
      refine JL.done hQ ?_
      obtain rfl := Option.some.inj hF
      refine JQ.mask [false, true] [true] ?_
      exact JQ.join l238 ⟨v239, xs240, rfl, rfl, rfl, rfl, rfl, rfl, hch241, (HSub.refl _), rfl⟩
     ·refine JC.cond_f (b := (y224.2.2 == 0)) rfl hc236 ?_
      refine JC.skip ?_
      obtain rfl := Option.some.inj hF
      exact JQ.join out_211 ⟨vout_211, xsout_211, rfl, rfl, rfl, rfl, rfl, rfl, (CH.mono RInt.mono (HSub.trans hs222 hs225) hout_211), (HSub.refl _), rfl⟩
    ·rintro out_233 H234 f bs gs ⟨vout_233, xsout_233, hf1, hf2, hf9, hf10, rfl, rfl, hout_233, hs234, rfl⟩
     have hF := hKr235
     try dsimp only at hF
     refine (JQ.norm (i := 1) hf1 (JQ.norm (i := 2) hf2 (JQ.norm (i := 9) hf9 (JQ.norm (i := 10) hf10 ?_))))
     refine JQ.normal_block (JQ.go (JC.region (by rfl) ?_))
     intro hQ
     refine JL.move .none rfl ?_
     refine JL.bin rfl rfl rfl .none rfl ?_
     refine JL.assign .none rfl ?_
     refine JL.done hQ ?_
     obtain rfl := Option.some.inj hF
     exact JQ.next rfl ⟨vout_233, xsout_233, rfl, rfl, rfl, rfl, rfl, rfl, hout_233, (HSub.trans hs212 (HSub.trans hs222 (HSub.trans hs225 hs234)))⟩
   ·refine JC.cond_f (b := decide (force_210 ≤ y215.Force.High)) rfl hc220 ?_
    refine JC.exit (JQ.exit_then (JQ.exit_then (JQ.exit_block ?_)))
    obtain rfl := Option.some.inj hF
    have ehr213 := hr213 _ rfl
    subst ehr213
    refine JQ.mask [false] [true] ?_
    exact JQ.join out_211 ⟨vout_211, xsout_211, rfl, rfl, rfl, hout_211, hs212, rfl⟩
  ·rintro out_147 H148 f bs gs ⟨vout_147, xsout_147, hf9, rfl, rfl, hout_147, hs148, rfl⟩
   have hF := hKr149
   try dsimp only at hF
   refine (JQ.norm (i := 9) hf9 ?_)
   refine JQ.go (JC.seq (JC.region (by rfl) ?_))
   intro hQ
   refine JL.move .none rfl ?_
   refine JL.assign .none rfl ?_
   refine JL.assign .none rfl ?_
   refine JL.done hQ (JQ.go (JC.ret (JQ.freezeG 0 (R := RInt) rfl RInt.mono hout_147 rfl ?_)))
   intro H242 hs242 hg243
   obtain rfl := Option.some.inj hF
   exact JQ.outH rfl (.tmp (.tmp .nil)) ⟨vout_147, rfl, hg243⟩
-- 47 ferrule/ferruletop.greatest
noncomputable def F_top_greatest_s1 (n : Nat) (r : Run) : Int × List Gust → Option ((Int × List Gust) ⊕ (((List Gust) × Bool) ⊕ (List Gust)))
 | (i_471, out_472) => if decide (i_471 < (r.Blows.length : Int)) = true then ((F_counts_Forces n r i_471).bind fun y477 => if (((y477.2 != 0) || ((y477.1.length : Int) == 0)) || (decide (20 < (y477.1.length : Int)))) = true then (some (Sum.inr (Sum.inl (([] : List Gust), false)))) else ((geti y477.1 (w64 ((y477.1.length : Int) - 1))).bind fun y495 => (geti r.Blows i_471).bind fun y500 => (lim (out_472 ++ [(Gust.mk y495 y500.At)])).bind fun l506 => some (Sum.inl ((w64 (i_471 + 1)), l506)))) else (some (Sum.inr (Sum.inr out_472)))
noncomputable def F_top_greatest (n : Nat) (r : Run) : Option ((List Gust) × Bool) :=
 (loopO n (F_top_greatest_s1 n r) (0, ([] : List Gust))).bind fun r316 => match r316 with | .inl o => some o | .inr out_314 => some (out_314, true)
theorem c_top_greatest (n : Nat) (H : Hp) (r : Run) (r_v0 : Value) (hr_0 : SL H 7 R_Section r_v0 r.Canopy.Frame.Sections) (r_v7 : Value) (hr_7 : SL H 2 R_Span r_v7 r.Canopy.Ribs) (r_v8 : Value) (hr_8 : SL H 1 RInt r_v8 r.Canopy.Shares) (r_v9 : Value) (hr_9 : SL H 3 R_Blow r_v9 r.Blows) (r_v10 : Value) (hr_10 : SL H 2 R_Meter r_v10 r.Meters) (y : (List Gust) × Bool) (hF : F_top_greatest n r = some y) : HC Try.prog 47 [.agg [r_v0, .int .i64 r.Canopy.Frame.Low, .int .i64 r.Canopy.Frame.High, .int .i64 r.Canopy.Frame.Ease.Num, .int .i64 r.Canopy.Frame.Ease.Den, .int .i64 r.Canopy.Frame.Rod, .int .i64 r.Canopy.Frame.Case, r_v7, r_v8, r_v9, r_v10, .int .i64 r.Wrong].toArray] H (fun H' v => ∃ ra_v0 : Value, v = .tuple [ra_v0, .bool y.2].toArray ∧ SL H' 2 R_Gust ra_v0 y.1) := by
 rw [F_top_greatest] at hF
 refine HC.of (N := 50) Try.func47 rfl rfl rfl fun w => ?_
 refine JC.seq (JC.region (by rfl) ?_)
 intro hQ
 refine JL.box (cs := [r_v0, .int .i64 r.Canopy.Frame.Low, .int .i64 r.Canopy.Frame.High, .int .i64 r.Canopy.Frame.Ease.Num, .int .i64 r.Canopy.Frame.Ease.Den, .int .i64 r.Canopy.Frame.Rod, .int .i64 r.Canopy.Frame.Case, r_v7, r_v8, r_v9, r_v10, .int .i64 r.Wrong]) rfl .none rfl ?_
 intro b1
 refine JL.assign .none rfl ?_
 refine JL.assign .none rfl ?_
 refine JL.done hQ (JQ.go (JC.seq (JC.region (by rfl) ?_)))
 intro hQ
 refine JL.assign .none rfl ?_
 refine JL.done hQ (JQ.go (JC.seq (JC.seq (JC.region (by rfl) ?_))))
 intro hQ
 refine JL.assign .none rfl ?_
 refine JL.done hQ (JQ.go (JC.newNil (e := 86) (sz := 2) ?_))
 obtain ⟨r316, hlr316, hKr316⟩ := bind_some hF
 refine JC.join (fun (out_314 : List Gust) H315 f bs gs => ∃ (vout_314 : Value) (xsout_314 : List Value), f 4 = vout_314 ∧ bs = [] ∧ gs = [⟨vout_314, 86, 2, out_314.length, xsout_314⟩] ∧ CH H315 2 R_Gust xsout_314 out_314 ∧ HSub H H315 ∧ Sum.inr out_314 = r316) ?_ ?_
 ·skip
  refine JC.block (JC.loop hlr316 (fun (x : Int × List Gust) H473 f bs gs => match x with | (i_471, out_472) => ∃ (vout_472 : Value) (xsout_472 : List Value), f 1 = .pointer (some ⟨b1, 0, none⟩) ∧ f 4 = vout_472 ∧ f 5 = .int .i64 i_471 ∧ bs = [(b1, .cells [r_v0, .int .i64 r.Canopy.Frame.Low, .int .i64 r.Canopy.Frame.High, .int .i64 r.Canopy.Frame.Ease.Num, .int .i64 r.Canopy.Frame.Ease.Den, .int .i64 r.Canopy.Frame.Rod, .int .i64 r.Canopy.Frame.Case, r_v7, r_v8, r_v9, r_v10, .int .i64 r.Wrong].toArray 90)] ∧ gs = [⟨vout_472, 86, 2, out_472.length, xsout_472⟩] ∧ CH H473 2 R_Gust xsout_472 out_472 ∧ HSub H H473) ⟨(.slice none 0 0), [], rfl, rfl, rfl, rfl, rfl, CH.nil, (HSub.refl _)⟩ ?_)
  rintro ⟨i_471, out_472⟩ x475 H473 f bs gs ⟨vout_472, xsout_472, hf1, hf4, hf5, rfl, rfl, hout_472, hs473⟩ hF hr474
  rw [F_top_greatest_s1] at hF
  refine (JC.norm (i := 1) hf1 (JC.norm (i := 4) hf4 (JC.norm (i := 5) hf5 ?_)))
  refine JC.seq (JC.seq (JC.region (by rfl) ?_))
  intro hQ
  refine JL.move .none rfl ?_
  refine JL.fieldAddr fo_90_1 rfl .none rfl ?_
  refine JL.loadOwn 0 az_87 rfl rfl rfl .none rfl ?_
  refine JL.lenSL (R := R_Blow) ul_87 (SL.mono R_Blow_mono hs473 hr_9) .none rfl ?_
  refine JL.bin rfl rfl rfl .none rfl ?_
  refine JL.done hQ (JQ.go ?_)
  rcases ite_some hF with ⟨hc476, hF⟩ | ⟨hc476, hF⟩
  ·refine JC.cond_t (b := decide (i_471 < (r.Blows.length : Int))) rfl hc476 ?_
   refine JC.skip (JQ.go (JC.seq (JC.block (JC.seq (JC.region (by rfl) ?_)))))
   intro hQ
   refine JL.loadOwn 0 az_90 rfl rfl rfl .none rfl ?_
   refine JL.move .none rfl ?_
   obtain ⟨y477, hy477, hF⟩ := bind_some hF
   refine JL.callH (c_counts_Forces n H473 r r_v0 (SL.mono R_Section_mono hs473 hr_0) r_v7 (SL.mono R_Span_mono hs473 hr_7) r_v8 (SL.mono RInt.mono hs473 hr_8) r_v9 (SL.mono R_Blow_mono hs473 hr_9) r_v10 (SL.mono R_Meter_mono hs473 hr_10) i_471 y477 hy477) rfl en_101 .none rfl ?_
   rintro H478 vv479 hs478 ⟨y477a_v0, rfl, hy477a_0⟩
   refine JL.move .none rfl ?_
   refine JL.extract rfl rfl .none rfl ?_
   refine JL.extract rfl rfl .none rfl ?_
   refine JL.assign .none rfl ?_
   refine JL.assign .none rfl ?_
   refine JL.done hQ (JQ.go (JC.fresh (fun f => f 1 = .pointer (some ⟨b1, 0, none⟩) ∧ f 4 = vout_472 ∧ f 5 = .int .i64 i_471 ∧ f 6 = y477a_v0 ∧ f 7 = .int .i64 y477.2) ⟨rfl, rfl, rfl, rfl, rfl⟩ ?_))
   rintro f ⟨hf1, hf4, hf5, hf6, hf7⟩
   refine (JC.norm (i := 1) hf1 (JC.norm (i := 4) hf4 (JC.norm (i := 5) hf5 (JC.norm (i := 6) hf6 (JC.norm (i := 7) hf7 ?_)))))
   refine JC.seq (JC.seq (JC.region (by rfl) ?_))
   intro hQ
   refine JL.move .none rfl ?_
   refine JL.bin rfl rfl rfl .none rfl ?_
   refine JL.move .none rfl ?_
   refine JL.cut 4 (fun f => f 1 = .pointer (some ⟨b1, 0, none⟩) ∧ f 4 = vout_472 ∧ f 5 = .int .i64 i_471 ∧ f 6 = y477a_v0 ∧ f 27 = .bool ((y477.2 != 0) || ((y477.1.length : Int) == 0))) ?_ ?_
   ·intro hJ480
    rcases bcases (y477.2 != 0) with hc481 | hc481
    ·skip
     refine JL.skip (.bool rfl rfl rfl hc481) rfl ?_
     refine JL.skip (.bool rfl rfl rfl hc481) rfl ?_
     refine JL.skip (.bool rfl rfl rfl hc481) rfl ?_
     refine JL.pick_t (b := (y477.2 != 0)) rfl hc481 .none rfl ?_
     exact hJ480 _ ⟨rfl, rfl, rfl, rfl, or_t hc481 rfl⟩
    ·skip
     refine JL.move (.some rfl rfl rfl hc481) rfl ?_
     refine JL.lenSL (R := RInt) ul_23 hy477a_0 (.some rfl rfl rfl hc481) rfl ?_
     refine JL.bin rfl rfl rfl (.some rfl rfl rfl hc481) rfl ?_
     refine JL.pick_f (b := (y477.2 != 0)) rfl hc481 .none rfl ?_
     exact hJ480 _ ⟨rfl, rfl, rfl, rfl, or_f hc481 rfl⟩
   ·rintro f ⟨hf1, hf4, hf5, hf6, hf27⟩
    refine (JL.norm (i := 1) hf1 (JL.norm (i := 4) hf4 (JL.norm (i := 5) hf5 (JL.norm (i := 6) hf6 (JL.norm (i := 27) hf27 ?_)))))
    refine JL.move .none rfl ?_
    refine JL.cut 4 (fun f => f 1 = .pointer (some ⟨b1, 0, none⟩) ∧ f 4 = vout_472 ∧ f 5 = .int .i64 i_471 ∧ f 6 = y477a_v0 ∧ f 32 = .bool (((y477.2 != 0) || ((y477.1.length : Int) == 0)) || (decide (20 < (y477.1.length : Int))))) ?_ ?_
    ·intro hJ482
     rcases bcases ((y477.2 != 0) || ((y477.1.length : Int) == 0)) with hc483 | hc483
     ·skip
      refine JL.skip (.bool rfl rfl rfl hc483) rfl ?_
      refine JL.skip (.bool rfl rfl rfl hc483) rfl ?_
      refine JL.skip (.bool rfl rfl rfl hc483) rfl ?_
      refine JL.pick_t (b := ((y477.2 != 0) || ((y477.1.length : Int) == 0))) rfl hc483 .none rfl ?_
      exact hJ482 _ ⟨rfl, rfl, rfl, rfl, or_t hc483 rfl⟩
     ·skip
      refine JL.move (.some rfl rfl rfl hc483) rfl ?_
      refine JL.lenSL (R := RInt) ul_23 hy477a_0 (.some rfl rfl rfl hc483) rfl ?_
      refine JL.bin rfl rfl rfl (.some rfl rfl rfl hc483) rfl ?_
      refine JL.pick_f (b := ((y477.2 != 0) || ((y477.1.length : Int) == 0))) rfl hc483 .none rfl ?_
      exact hJ482 _ ⟨rfl, rfl, rfl, rfl, or_f hc483 rfl⟩
    ·rintro f ⟨hf1, hf4, hf5, hf6, hf32⟩
     refine (JL.norm (i := 1) hf1 (JL.norm (i := 4) hf4 (JL.norm (i := 5) hf5 (JL.norm (i := 6) hf6 (JL.norm (i := 32) hf32 ?_)))))
     refine JL.done hQ (JQ.go ?_)
     rcases ite_some hF with ⟨hc484, hF⟩ | ⟨hc484, hF⟩
     ·refine JC.cond_t (b := (((y477.2 != 0) || ((y477.1.length : Int) == 0)) || (decide (20 < (y477.1.length : Int))))) rfl hc484 ?_
      refine JC.seq (JC.region (by rfl) ?_)
      intro hQ
      refine JL.assign .none rfl ?_
      refine JL.assign .none rfl ?_
      refine JL.done hQ (JQ.go (JC.ret (JQ.ret_then (JQ.ret_block (JQ.ret_then (JQ.ret_then (JQ.ret_block (JQ.ret_join (JQ.ret_then ?_)))))))))
      obtain rfl := Option.some.inj hF
      have ehr474 := hr474 _ rfl
      subst ehr474
      have hF := hKr316
      try dsimp only at hF
      obtain rfl := Option.some.inj hF
      exact JQ.outH rfl (.tmp (.tmp .nil)) ⟨(.slice none 0 0), rfl, SL.nil⟩
     ·refine JC.cond_f (b := (((y477.2 != 0) || ((y477.1.length : Int) == 0)) || (decide (20 < (y477.1.length : Int))))) rfl hc484 ?_
      refine JC.skip (JQ.go ?_)
      obtain ⟨y495, hy495, hF⟩ := bind_some hF
      obtain ⟨y500, hy500, hF⟩ := bind_some hF
      obtain ⟨l506, hl506, hF⟩ := bind_some hF
      refine JC.mixed 17 17 #[false, false, false, false, false, false, false, false, false, false, false, false, false, false, false, false, false] [(b1, .cells [r_v0, .int .i64 r.Canopy.Frame.Low, .int .i64 r.Canopy.Frame.High, .int .i64 r.Canopy.Frame.Ease.Num, .int .i64 r.Canopy.Frame.Ease.Den, .int .i64 r.Canopy.Frame.Rod, .int .i64 r.Canopy.Frame.Case, r_v7, r_v8, r_v9, r_v10, .int .i64 r.Wrong].toArray 90)] (by rfl) mo_ (by kernel_rfl) (by kernel_rfl) ?_
      intro hQ hE
      refine JA.take 0 (listed' := #[true, false, false, false, false, false, false, false, false, false, false, false, false, false, false, false, false]) hQ rfl (by kernel_rfl) (by kernel_rfl) (by kernel_rfl) (by kernel_rfl) (by kernel_rfl) hE (HSub.refl _) (.cons_cons _ (List.nil_sublist _)) ?_
      refine JL.move .none rfl ?_
      refine JA.cont ?_
      refine JA.take 1 (listed' := #[true, true, false, false, false, false, false, false, false, false, false, false, false, false, false, false, false]) hQ rfl (by kernel_rfl) (by kernel_rfl) (by kernel_rfl) (by kernel_rfl) (by kernel_rfl) hE (HSub.refl _) (.cons_cons _ (List.nil_sublist _)) ?_
      refine JL.move .none rfl ?_
      refine JA.cont ?_
      refine JA.take 2 (listed' := #[true, true, true, false, false, false, false, false, false, false, false, false, false, false, false, false, false]) hQ rfl (by kernel_rfl) (by kernel_rfl) (by kernel_rfl) (by kernel_rfl) (by kernel_rfl) hE (HSub.refl _) (.cons_cons _ (List.nil_sublist _)) ?_
      refine JL.move .none rfl ?_
      refine JA.cont ?_
      refine JA.take 3 (listed' := #[true, true, true, true, false, false, false, false, false, false, false, false, false, false, false, false, false]) hQ rfl (by kernel_rfl) (by kernel_rfl) (by kernel_rfl) (by kernel_rfl) (by kernel_rfl) hE (HSub.refl _) (.cons_cons _ (List.nil_sublist _)) ?_
      refine JL.lenSL (R := RInt) ul_23 hy477a_0 .none rfl ?_
      refine JA.cont ?_
      refine JA.take 4 (listed' := #[true, true, true, true, true, false, false, false, false, false, false, false, false, false, false, false, false]) hQ rfl (by kernel_rfl) (by kernel_rfl) (by kernel_rfl) (by kernel_rfl) (by kernel_rfl) hE (HSub.refl _) (.cons_cons _ (List.nil_sublist _)) ?_
      refine JL.bin rfl rfl rfl .none rfl ?_
      refine JA.cont ?_
      refine JA.take 5 (listed' := #[true, true, true, true, true, true, false, false, false, false, false, false, false, false, false, false, false]) hQ rfl (by kernel_rfl) (by kernel_rfl) (by kernel_rfl) (by kernel_rfl) (by kernel_rfl) hE (HSub.refl _) (.cons_cons _ (List.nil_sublist _)) ?_
      refine JL.indexSL (R := RInt) sl_23 hy477a_0 rfl hy495 .none rfl ?_
      rintro b534 o535 cs536 hc537 - rfl
      refine JA.cont ?_
      refine JA.take 6 (listed' := #[true, true, true, true, true, true, true, false, false, false, false, false, false, false, false, false, false]) hQ rfl (by kernel_rfl) (by kernel_rfl) (by kernel_rfl) (by kernel_rfl) (by kernel_rfl) hE (HSub.refl _) (.cons_cons _ (List.nil_sublist _)) ?_
      refine JL.loadH 0 az_3 rfl hc537 rfl .none rfl ?_
      refine JA.cont ?_
      refine JA.take 7 (listed' := #[true, true, true, true, true, true, true, true, false, false, false, false, false, false, false, false, false]) hQ rfl (by kernel_rfl) (by kernel_rfl) (by kernel_rfl) (by kernel_rfl) (by kernel_rfl) hE (HSub.refl _) (.cons_cons _ (List.nil_sublist _)) ?_
      refine JL.fieldAddr fo_90_1 rfl .none rfl ?_
      refine JA.cont ?_
      refine JA.take 8 (listed' := #[true, true, true, true, true, true, true, true, true, false, false, false, false, false, false, false, false]) hQ rfl (by kernel_rfl) (by kernel_rfl) (by kernel_rfl) (by kernel_rfl) (by kernel_rfl) hE (HSub.refl _) (.cons_cons _ (List.nil_sublist _)) ?_
      refine JL.loadOwn 0 az_87 rfl rfl rfl .none rfl ?_
      refine JA.cont ?_
      refine JA.take 9 (listed' := #[true, true, true, true, true, true, true, true, true, true, false, false, false, false, false, false, false]) hQ rfl (by kernel_rfl) (by kernel_rfl) (by kernel_rfl) (by kernel_rfl) (by kernel_rfl) hE (HSub.refl _) (.cons_cons _ (List.nil_sublist _)) ?_
      refine JL.move .none rfl ?_
      refine JA.cont ?_
      refine JA.take 10 (listed' := #[true, true, true, true, true, true, true, true, true, true, true, false, false, false, false, false, false]) hQ rfl (by kernel_rfl) (by kernel_rfl) (by kernel_rfl) (by kernel_rfl) (by kernel_rfl) hE (HSub.refl _) (.cons_cons _ (List.nil_sublist _)) ?_
      refine JL.indexSL (R := R_Blow) sl_87 (SL.mono R_Blow_mono (HSub.trans hs473 hs478) hr_9) rfl hy500 .none rfl ?_
      rintro b542 o543 cs544 hc545 - rfl
      refine JA.cont ?_
      refine JA.take 11 (listed' := #[true, true, true, true, true, true, true, true, true, true, true, true, false, false, false, false, false]) hQ rfl (by kernel_rfl) (by kernel_rfl) (by kernel_rfl) (by kernel_rfl) (by kernel_rfl) hE (HSub.refl _) (.cons_cons _ (List.nil_sublist _)) ?_
      refine JL.fieldAddr fo_98_0 rfl .none rfl ?_
      refine JA.cont ?_
      refine JA.take 12 (listed' := #[true, true, true, true, true, true, true, true, true, true, true, true, true, false, false, false, false]) hQ rfl (by kernel_rfl) (by kernel_rfl) (by kernel_rfl) (by kernel_rfl) (by kernel_rfl) hE (HSub.refl _) (.cons_cons _ (List.nil_sublist _)) ?_
      refine JL.loadH 0 az_3 rfl hc545 rfl .none rfl ?_
      refine JA.cont ?_
      refine JA.take 13 (listed' := #[true, true, true, true, true, true, true, true, true, true, true, true, true, true, false, false, false]) hQ rfl (by kernel_rfl) (by kernel_rfl) (by kernel_rfl) (by kernel_rfl) (by kernel_rfl) hE (HSub.refl _) (.cons_cons _ (List.nil_sublist _)) ?_
      refine JL.build (l := [.int .i64 y495, .int .i64 y500.At]) (by kernel_rfl) .none rfl ?_
      refine JA.cont ?_
      refine JA.many [14] (by kernel_rfl) (by simp) (all_one ⟨_, #[true, true, true, true, true, true, true, true, true, true, true, true, true, true, true, false, false], rfl, (by kernel_rfl), ?_⟩)
      refine JL.buildSlice (e := 86) (l := [.int .i64 y495, .int .i64 y500.At]) (by kernel_rfl) .none rfl ?_
      intro b546
      refine JA.after hE (HSub.refl _) (.cons _ (.cons_cons _ (List.nil_sublist _))) ?_
      refine JA.many [15] (by kernel_rfl) (by simp) (all_one ⟨_, #[true, true, true, true, true, true, true, true, true, true, true, true, true, true, true, true, false], rfl, (by kernel_rfl), ?_⟩)
      refine JL.appO (R := R_Gust) 0 0 (l := out_472) (m := [(Gust.mk y495 y500.At)]) ap_103 rfl ⟨rfl, rfl⟩ rfl (CH.mono R_Gust_mono hs478 hout_472) rfl rfl rfl (CH.cons (cs := [.int .i64 y495, .int .i64 y500.At]) rfl rfl CH.nil) rfl (one_cons rfl (one_cons rfl one_nil)) hl506 .none rfl ?_
      intro v547 xs548 hch549
      refine JA.after hE (HSub.refl _) (.cons _ (.cons_cons _ (List.nil_sublist _))) ?_
      refine JA.take 16 (listed' := #[true, true, true, true, true, true, true, true, true, true, true, true, true, true, true, true, true]) hQ rfl (by kernel_rfl) (by kernel_rfl) (by kernel_rfl) (by kernel_rfl) (by kernel_rfl) hE (HSub.refl _) (.cons _ (.cons_cons _ (List.nil_sublist _))) ?_
      refine JL.assign .none rfl ?_
      refine JA.cont ?_
      refine JA.done hQ (by kernel_rfl) ?_
      refine JQ.normal_block (JQ.go (JC.fresh (fun f => f 1 = .pointer (some ⟨b1, 0, none⟩) ∧ f 4 = v547 ∧ f 5 = .int .i64 i_471) ⟨rfl, rfl, rfl⟩ ?_))
      rintro f ⟨hf1, hf4, hf5⟩
      refine (JC.norm (i := 1) hf1 (JC.norm (i := 4) hf4 (JC.norm (i := 5) hf5 ?_)))
      refine JC.region (by rfl) ?_
      intro hQ
      refine JL.move .none rfl ?_
      refine JL.bin rfl rfl rfl .none rfl ?_
      refine JL.assign .none rfl ?_
      refine JL.done hQ ?_
      obtain rfl := Option.some.inj hF
      refine JQ.mask [false, true] [true] ?_
      exact JQ.next rfl ⟨v547, xs548, rfl, rfl, rfl, rfl, rfl, hch549, (HSub.trans hs473 hs478)⟩
  ·refine JC.cond_f (b := decide (i_471 < (r.Blows.length : Int))) rfl hc476 ?_
   refine JC.exit (JQ.exit_then (JQ.exit_then (JQ.exit_block ?_)))
   obtain rfl := Option.some.inj hF
   have ehr474 := hr474 _ rfl
   subst ehr474
   refine JQ.mask [false] [true] ?_
   exact JQ.join out_472 ⟨vout_472, xsout_472, rfl, rfl, rfl, hout_472, hs473, rfl⟩
 ·rintro out_314 H315 f bs gs ⟨vout_314, xsout_314, hf4, rfl, rfl, hout_314, hs315, rfl⟩
  have hF := hKr316
  try dsimp only at hF
  refine (JQ.norm (i := 4) hf4 ?_)
  refine JQ.go (JC.seq (JC.region (by rfl) ?_))
  intro hQ
  refine JL.move .none rfl ?_
  refine JL.assign .none rfl ?_
  refine JL.assign .none rfl ?_
  refine JL.done hQ (JQ.go (JC.ret (JQ.freezeG 0 (R := R_Gust) rfl R_Gust_mono hout_314 rfl ?_)))
  intro H550 hs550 hg551
  obtain rfl := Option.some.inj hF
  exact JQ.outH rfl (.tmp (.tmp .nil)) ⟨vout_314, rfl, hg551⟩
-- 143 ferrule/gusts.ask$1
def F_gusts_ask_1 (n : Nat) (g : Gust) (c_0 : Canopy) : Option Bool :=
 (F_gusts_within n g.Force 0 99).bind fun y2 => (if (!y2) = true then (some true) else ((F_gusts_within n g.At 0 (w64 ((c_0.Ribs.length : Int) - 1))).bind fun y7 => some (!y7)) : Option Bool).bind fun p4 => some p4
theorem c_gusts_ask_1 (n : Nat) (H : Hp) (g : Gust) (c_0 : Canopy) (c_0_v0 : Value) (hc_0_0 : SL H 7 R_Section c_0_v0 c_0.Frame.Sections) (c_0_v7 : Value) (hc_0_7 : SL H 2 R_Span c_0_v7 c_0.Ribs) (c_0_v8 : Value) (hc_0_8 : SL H 1 RInt c_0_v8 c_0.Shares) (c_0_b : Nat) (c_0_c : Cells H c_0_b 0 [c_0_v0, .int .i64 c_0.Frame.Low, .int .i64 c_0.Frame.High, .int .i64 c_0.Frame.Ease.Num, .int .i64 c_0.Frame.Ease.Den, .int .i64 c_0.Frame.Rod, .int .i64 c_0.Frame.Case, c_0_v7, c_0_v8]) (y : Bool) (hF : F_gusts_ask_1 n g c_0 = some y) : SC Try.prog 143 [.agg [.int .i64 g.Force, .int .i64 g.At].toArray, .pointer (some ⟨c_0_b, 0, none⟩)] (.bool y) H := by
 rw [F_gusts_ask_1] at hF
 refine SC.of (N := 18) Try.func143 rfl rfl rfl fun w => ?_
 refine JC.seq (JC.region (by rfl) ?_)
 intro hQ
 refine JL.box (cs := [.int .i64 g.Force, .int .i64 g.At]) rfl .none rfl ?_
 intro b1
 refine JL.assign .none rfl ?_
 refine JL.done hQ (JQ.go (JC.seq (JC.region (by rfl) ?_)))
 intro hQ
 refine JL.fieldAddr fo_86_0 rfl .none rfl ?_
 refine JL.loadOwn 0 az_3 rfl rfl rfl .none rfl ?_
 obtain ⟨y2, hy2, hF⟩ := bind_some hF
 refine JL.callS (c_gusts_within n H g.Force 0 99 y2 hy2) rfl en_137 .none rfl ?_
 refine JL.not rfl .none rfl ?_
 refine JL.move .none rfl ?_
 obtain ⟨p4, hp4, hF⟩ := bind_some hF
 refine JL.cut 9 (fun f => f 17 = .bool p4) ?_ ?_
 ·intro hJ5
  rcases ite_some hp4 with ⟨hc6, hF⟩ | ⟨hc6, hF⟩
  ·skip
   refine JL.skip (.bool rfl rfl rfl hc6) rfl ?_
   refine JL.skip (.bool rfl rfl rfl hc6) rfl ?_
   refine JL.skip (.bool rfl rfl rfl hc6) rfl ?_
   refine JL.skip (.bool rfl rfl rfl hc6) rfl ?_
   refine JL.skip (.bool rfl rfl rfl hc6) rfl ?_
   refine JL.skip (.bool rfl rfl rfl hc6) rfl ?_
   refine JL.skip (.bool rfl rfl rfl hc6) rfl ?_
   refine JL.skip (.bool rfl rfl rfl hc6) rfl ?_
   refine JL.pick_t (b := (!y2)) rfl hc6 .none rfl ?_
   obtain rfl := Option.some.inj hF
   exact hJ5 _ (rfl)
  ·skip
   refine JL.fieldAddr fo_86_1 rfl (.some rfl rfl rfl hc6) rfl ?_
   refine JL.loadOwn 0 az_3 rfl rfl rfl (.some rfl rfl rfl hc6) rfl ?_
   refine JL.fieldAddr fo_76_1 rfl (.some rfl rfl rfl hc6) rfl ?_
   refine JL.loadH 7 az_24 rfl c_0_c rfl (.some rfl rfl rfl hc6) rfl ?_
   refine JL.lenSL (R := R_Span) ul_24 hc_0_7 (.some rfl rfl rfl hc6) rfl ?_
   refine JL.bin rfl rfl rfl (.some rfl rfl rfl hc6) rfl ?_
   obtain ⟨y7, hy7, hF⟩ := bind_some hF
   refine JL.callS (c_gusts_within n H g.At 0 (w64 ((c_0.Ribs.length : Int) - 1)) y7 hy7) rfl en_137 (.some rfl rfl rfl hc6) rfl ?_
   refine JL.not rfl (.some rfl rfl rfl hc6) rfl ?_
   refine JL.pick_f (b := (!y2)) rfl hc6 .none rfl ?_
   obtain rfl := Option.some.inj hF
   exact hJ5 _ (rfl)
 ·rintro f hf17
  refine (JL.norm (i := 17) hf17 ?_)
  refine JL.assign .none rfl ?_
  refine JL.done hQ (JQ.go (JC.ret ?_))
  obtain rfl := Option.some.inj hF
  exact JQ.outS rfl (.tmp .nil) rfl
-- 179 slices.IndexFunc[[]ferrule/api.Gust,ferrule/api.Gust]
def F_slices_IndexFunc___api_Gust_api_Gust__s1 (n : Nat) (s : List Gust) (f_ : Gust → Option Bool) : Int → Option (Int ⊕ (Int ⊕ Unit))
 | x_55 => if decide (x_55 < (s.length : Int)) = true then ((geti s x_55).bind fun y60 => (f_ y60).bind fun y65 => if y65 = true then (some (Sum.inr (Sum.inl x_55))) else (some (Sum.inl (w64 (x_55 + 1))))) else (some (Sum.inr (Sum.inr ())))
def F_slices_IndexFunc___api_Gust_api_Gust_ (n : Nat) (s : List Gust) (f_ : Gust → Option Bool) : Option Int :=
 (loopO n (F_slices_IndexFunc___api_Gust_api_Gust__s1 n s f_) 0).bind fun r34 => match r34 with | .inl o => some o | .inr _ => some (-1)
theorem c_slices_IndexFunc___api_Gust_api_Gust_ (n : Nat) (H : Hp) (s : List Gust) (s_v0 : Value) (hs_0 : SL H 2 R_Gust s_v0 s) (f_ : Gust → Option Bool) (f__k : Nat) (f__c : List Value) (f__e : Ent Try.prog f__k) (f__h : ∀ H', HSub H H' → ∀ (a0_ : Gust) (y : Bool), f_ a0_ = some y → SC Try.prog f__k ([.agg [.int .i64 a0_.Force, .int .i64 a0_.At].toArray] ++ f__c) (.bool y) H') (y : Int) (hF : F_slices_IndexFunc___api_Gust_api_Gust_ n s f_ = some y) : SC Try.prog 179 [s_v0, .func (.func f__k) #[] f__c.toArray] (.int .i64 y) H := by
 rw [F_slices_IndexFunc___api_Gust_api_Gust_] at hF
 refine SC.of (N := 19) Try.func179 rfl rfl rfl fun w => ?_
 refine JC.seq (JC.region (by rfl) ?_)
 intro hQ
 refine JL.assign .none rfl ?_
 refine JL.done hQ (JQ.go (JC.seq (JC.seq (JC.region (by rfl) ?_))))
 intro hQ
 refine JL.move .none rfl ?_
 refine JL.lenSL (R := R_Gust) ul_103 hs_0 .none rfl ?_
 refine JL.move .none rfl ?_
 refine JL.done hQ (JQ.go ?_)
 obtain ⟨r34, hlr34, hKr34⟩ := bind_some hF
 refine JC.join (fun (_ : Unit) H33 f bs gs => bs = [] ∧ gs = [] ∧ HSub H H33 ∧ Sum.inr () = r34) ?_ ?_
 ·skip
  refine JC.block (JC.loop hlr34 (fun (x_55 : Int) H56 f bs gs => f 0 = s_v0 ∧ f 1 = .func (.func f__k) #[] f__c.toArray ∧ f 7 = .int .i64 (s.length : Int) ∧ f 8 = .int .i64 x_55 ∧ bs = [] ∧ gs = [] ∧ HSub H H56) ⟨rfl, rfl, rfl, rfl, rfl, rfl, (HSub.refl _)⟩ ?_)
  rintro x_55 x58 H56 f bs gs ⟨hf0, hf1, hf7, hf8, rfl, rfl, hs56⟩ hF hr57
  rw [F_slices_IndexFunc___api_Gust_api_Gust__s1] at hF
  refine (JC.norm (i := 0) hf0 (JC.norm (i := 1) hf1 (JC.norm (i := 7) hf7 (JC.norm (i := 8) hf8 ?_))))
  refine JC.seq (JC.region (by rfl) ?_)
  intro hQ
  refine JL.bin rfl rfl rfl .none rfl ?_
  refine JL.done hQ (JQ.go (JC.seq ?_))
  rcases ite_some hF with ⟨hc59, hF⟩ | ⟨hc59, hF⟩
  ·refine JC.cond_t (b := decide (x_55 < (s.length : Int))) rfl hc59 ?_
   refine JC.skip (JQ.go (JC.seq (JC.block (JC.seq (JC.region (by rfl) ?_)))))
   intro hQ
   refine JL.move .none rfl ?_
   refine JL.assign .none rfl ?_
   refine JL.done hQ (JQ.go (JC.seq (JC.region (by rfl) ?_)))
   intro hQ
   refine JL.move .none rfl ?_
   refine JL.move .none rfl ?_
   refine JL.move .none rfl ?_
   obtain ⟨y60, hy60, hF⟩ := bind_some hF
   refine JL.indexSL (R := R_Gust) sl_103 (SL.mono R_Gust_mono hs56 hs_0) rfl hy60 .none rfl ?_
   rintro b61 o62 cs63 hc64 - rfl
   refine JL.loadH 0 az_86 rfl hc64 rfl .none rfl ?_
   obtain ⟨y65, hy65, hF⟩ := bind_some hF
   refine JL.callV rfl (f__h H56 hs56 y60 y65 hy65) rfl f__e .none rfl ?_
   refine JL.done hQ (JQ.go ?_)
   rcases ite_some hF with ⟨hc66, hF⟩ | ⟨hc66, hF⟩
   ·refine JC.cond_t (b := y65) rfl hc66 ?_
    refine JC.seq (JC.region (by rfl) ?_)
    intro hQ
    refine JL.move .none rfl ?_
    refine JL.assign .none rfl ?_
    refine JL.done hQ (JQ.go (JC.fresh (fun f => f 4 = .int .i64 x_55) rfl ?_))
    rintro f hf4
    refine (JC.norm (i := 4) hf4 ?_)
    refine JC.ret (JQ.ret_block (JQ.ret_then (JQ.ret_then (JQ.ret_block (JQ.ret_join (JQ.ret_then ?_))))))
    obtain rfl := Option.some.inj hF
    have ehr57 := hr57 _ rfl
    subst ehr57
    have hF := hKr34
    try dsimp only at hF
    obtain rfl := Option.some.inj hF
    exact JQ.outS rfl (.tmp .nil) rfl
   ·refine JC.cond_f (b := y65) rfl hc66 ?_
    refine JC.skip (JQ.normal_block (JQ.go (JC.region (by rfl) ?_)))
    intro hQ
    refine JL.bin rfl rfl rfl .none rfl ?_
    refine JL.move .none rfl ?_
    refine JL.done hQ ?_
    obtain rfl := Option.some.inj hF
    exact JQ.next rfl ⟨rfl, rfl, rfl, rfl, rfl, rfl, hs56⟩
  ·refine JC.cond_f (b := decide (x_55 < (s.length : Int))) rfl hc59 ?_
   refine JC.exit (JQ.exit_then (JQ.exit_then (JQ.exit_block ?_)))
   obtain rfl := Option.some.inj hF
   have ehr57 := hr57 _ rfl
   subst ehr57
   exact JQ.join () ⟨rfl, rfl, hs56, rfl⟩
 ·rintro _ H33 f bs gs ⟨rfl, rfl, hs33, rfl⟩
  have hF := hKr34
  try dsimp only at hF
  refine JQ.go (JC.seq (JC.region (by rfl) ?_))
  intro hQ
  refine JL.assign .none rfl ?_
  refine JL.done hQ (JQ.go (JC.ret ?_))
  obtain rfl := Option.some.inj hF
  exact JQ.outS rfl (.tmp .nil) rfl
-- 144 slices.ContainsFunc[[]ferrule/api.Gust,ferrule/api.Gust]
def F_slices_ContainsFunc___api_Gust_api_Gust_ (n : Nat) (s : List Gust) (f_ : Gust → Option Bool) : Option Bool :=
 (F_slices_IndexFunc___api_Gust_api_Gust_ n s f_).bind fun y1 => some (decide (0 ≤ y1))
theorem c_slices_ContainsFunc___api_Gust_api_Gust_ (n : Nat) (H : Hp) (s : List Gust) (s_v0 : Value) (hs_0 : SL H 2 R_Gust s_v0 s) (f_ : Gust → Option Bool) (f__k : Nat) (f__c : List Value) (f__e : Ent Try.prog f__k) (f__h : ∀ H', HSub H H' → ∀ (a0_ : Gust) (y : Bool), f_ a0_ = some y → SC Try.prog f__k ([.agg [.int .i64 a0_.Force, .int .i64 a0_.At].toArray] ++ f__c) (.bool y) H') (y : Bool) (hF : F_slices_ContainsFunc___api_Gust_api_Gust_ n s f_ = some y) : SC Try.prog 144 [s_v0, .func (.func f__k) #[] f__c.toArray] (.bool y) H := by
 rw [F_slices_ContainsFunc___api_Gust_api_Gust_] at hF
 refine SC.of (N := 9) Try.func144 rfl rfl rfl fun w => ?_
 refine JC.seq (JC.region (by rfl) ?_)
 intro hQ
 refine JL.assign .none rfl ?_
 refine JL.done hQ (JQ.go (JC.seq (JC.region (by rfl) ?_)))
 intro hQ
 refine JL.move .none rfl ?_
 refine JL.move .none rfl ?_
 obtain ⟨y1, hy1, hF⟩ := bind_some hF
 refine JL.callS (c_slices_IndexFunc___api_Gust_api_Gust_ n H s s_v0 hs_0 f_ f__k f__c f__e (fun H' hs' => f__h H' hs') y1 hy1) rfl en_179 .none rfl ?_
 refine JL.bin rfl rfl rfl .none rfl ?_
 refine JL.assign .none rfl ?_
 refine JL.done hQ (JQ.go (JC.ret ?_))
 obtain rfl := Option.some.inj hF
 exact JQ.outS rfl (.tmp .nil) rfl
-- 87 ferrule/gusts.ask
def F_gusts_ask (n : Nat) (d : Canopy) (class_ : List Gust) : Option Int :=
 (F_gusts_Check n d).bind fun y2 => if (y2 != 0) = true then (some y2) else ((if decide (20 < (class_.length : Int)) = true then (some true) else ((F_slices_ContainsFunc___api_Gust_api_Gust_ n class_ (fun a0_ => F_gusts_ask_1 n a0_ d)).bind fun y13 => some y13) : Option Bool).bind fun p7 => if p7 = true then (some 1) else (some 0))
theorem c_gusts_ask (n : Nat) (H : Hp) (d : Canopy) (d_v0 : Value) (hd_0 : SL H 7 R_Section d_v0 d.Frame.Sections) (d_v7 : Value) (hd_7 : SL H 2 R_Span d_v7 d.Ribs) (d_v8 : Value) (hd_8 : SL H 1 RInt d_v8 d.Shares) (class_ : List Gust) (class__v0 : Value) (hclass__0 : SL H 2 R_Gust class__v0 class_) (y : Int) (hF : F_gusts_ask n d class_ = some y) : SC Try.prog 87 [.agg [d_v0, .int .i64 d.Frame.Low, .int .i64 d.Frame.High, .int .i64 d.Frame.Ease.Num, .int .i64 d.Frame.Ease.Den, .int .i64 d.Frame.Rod, .int .i64 d.Frame.Case, d_v7, d_v8].toArray, class__v0] (.int .i64 y) H := by
 rw [F_gusts_ask] at hF
 refine SC.of (N := 21) Try.func87 rfl rfl rfl fun w => ?_
 refine JC.seq (JC.region (by rfl) ?_)
 intro hQ
 refine JL.box (cs := [d_v0, .int .i64 d.Frame.Low, .int .i64 d.Frame.High, .int .i64 d.Frame.Ease.Num, .int .i64 d.Frame.Ease.Den, .int .i64 d.Frame.Rod, .int .i64 d.Frame.Case, d_v7, d_v8]) rfl .none rfl ?_
 intro b1
 refine JL.assign .none rfl ?_
 refine JL.done hQ (JQ.go (JC.seq (JC.seq (JC.region (by rfl) ?_))))
 intro hQ
 refine JL.loadOwn 0 az_76 rfl rfl rfl .none rfl ?_
 obtain ⟨y2, hy2, hF⟩ := bind_some hF
 refine JL.callS (c_gusts_Check n H d d_v0 hd_0 d_v7 hd_7 d_v8 hd_8 y2 hy2) rfl en_84 .none rfl ?_
 refine JL.assign .none rfl ?_
 refine JL.done hQ (JQ.go (JC.seq (JC.region (by rfl) ?_)))
 intro hQ
 refine JL.move .none rfl ?_
 refine JL.bin rfl rfl rfl .none rfl ?_
 refine JL.done hQ (JQ.go ?_)
 rcases ite_some hF with ⟨hc3, hF⟩ | ⟨hc3, hF⟩
 ·refine JC.cond_t (b := (y2 != 0)) rfl hc3 ?_
  refine JC.seq (JC.region (by rfl) ?_)
  intro hQ
  refine JL.move .none rfl ?_
  refine JL.assign .none rfl ?_
  refine JL.done hQ (JQ.go (JC.ret (JQ.ret_then ?_)))
  obtain rfl := Option.some.inj hF
  exact JQ.outS rfl (.tmp .nil) rfl
 ·refine JC.cond_f (b := (y2 != 0)) rfl hc3 ?_
  refine JC.skip (JQ.go (JC.seq (JC.region (by rfl) ?_)))
  intro hQ
  refine JL.makeFunc .none rfl ?_
  refine JL.assign .none rfl ?_
  refine JL.done hQ (JQ.go (JC.seq (JC.seq (JC.region (by rfl) ?_))))
  intro hQ
  refine JL.move .none rfl ?_
  refine JL.lenSL (R := R_Gust) ul_103 hclass__0 .none rfl ?_
  refine JL.bin rfl rfl rfl .none rfl ?_
  refine JL.move .none rfl ?_
  obtain ⟨p7, hp7, hF⟩ := bind_some hF
  refine JL.cutW 4 (fun H8 f bs gs => f 20 = .bool p7 ∧ bs = [] ∧ gs = [] ∧ HSub H H8) ?_ ?_
  ·intro hJ9
   rcases ite_some hp7 with ⟨hc10, hF⟩ | ⟨hc10, hF⟩
   ·skip
    refine JL.skip (.bool rfl rfl rfl hc10) rfl ?_
    refine JL.skip (.bool rfl rfl rfl hc10) rfl ?_
    refine JL.skip (.bool rfl rfl rfl hc10) rfl ?_
    refine JL.pick_t (b := decide (20 < (class_.length : Int))) rfl hc10 .none rfl ?_
    obtain rfl := Option.some.inj hF
    refine JL.mask [false] [] ?_
    exact hJ9 _ _ _ _ ⟨rfl, rfl, rfl, (HSub.refl _)⟩
   ·skip
    refine JL.move (.some rfl rfl rfl hc10) rfl ?_
    refine JL.move (.some rfl rfl rfl hc10) rfl ?_
    refine JL.freezeC 0 (l := [d_v0, .int .i64 d.Frame.Low, .int .i64 d.Frame.High, .int .i64 d.Frame.Ease.Num, .int .i64 d.Frame.Ease.Den, .int .i64 d.Frame.Rod, .int .i64 d.Frame.Case, d_v7, d_v8]) rfl ?_
    intro H11 hs11 hc12
    obtain ⟨y13, hy13, hF⟩ := bind_some hF
    refine JL.callS (c_slices_ContainsFunc___api_Gust_api_Gust_ n H11 class_ class__v0 (SL.mono R_Gust_mono hs11 hclass__0) (fun a0_ => F_gusts_ask_1 n a0_ d) 143 [.pointer (some ⟨b1, 0, none⟩)] en_143 (fun H' hs' a0_ y' hy' => c_gusts_ask_1 n H' a0_ d d_v0 (SL.mono R_Section_mono hs' (SL.mono R_Section_mono hs11 hd_0)) d_v7 (SL.mono R_Span_mono hs' (SL.mono R_Span_mono hs11 hd_7)) d_v8 (SL.mono RInt.mono hs' (SL.mono RInt.mono hs11 hd_8)) b1 (Cells.mono hs' hc12) y' hy') y13 hy13) rfl en_144 (.some rfl rfl rfl hc10) rfl ?_
    refine JL.pick_f (b := decide (20 < (class_.length : Int))) rfl hc10 .none rfl ?_
    obtain rfl := Option.some.inj hF
    refine JL.mask [] [] ?_
    exact hJ9 _ _ _ _ ⟨rfl, rfl, rfl, hs11⟩
  ·rintro H8 f bs gs ⟨hf20, rfl, rfl, hs8⟩
   refine (JL.norm (i := 20) hf20 ?_)
   refine JL.done hQ (JQ.go ?_)
   rcases ite_some hF with ⟨hc14, hF⟩ | ⟨hc14, hF⟩
   ·refine JC.cond_t (b := p7) rfl hc14 ?_
    refine JC.seq (JC.region (by rfl) ?_)
    intro hQ
    refine JL.assign .none rfl ?_
    refine JL.done hQ (JQ.go (JC.ret (JQ.ret_then ?_)))
    obtain rfl := Option.some.inj hF
    exact JQ.outS rfl (.tmp .nil) rfl
   ·refine JC.cond_f (b := p7) rfl hc14 ?_
    refine JC.skip (JQ.go (JC.seq (JC.region (by rfl) ?_)))
    intro hQ
    refine JL.assign .none rfl ?_
    refine JL.done hQ (JQ.go (JC.ret ?_))
    obtain rfl := Option.some.inj hF
    exact JQ.outS rfl (.tmp .nil) rfl
end Go.Proofs.Yteihdclpiekmaaa
end
section
set_option maxRecDepth 100000
set_option maxHeartbeats 40000000
namespace Go.Proofs.Yteihdclpiekmaaa
open Go Go.RowKit Go.Dec
set_option linter.unusedVariables false
-- 88 ferrule/gusts.ends
def F_gusts_ends_s1 (n : Nat) (d : Canopy) : Int × List Int × List Int → Option ((Int × List Int × List Int) ⊕ (List Int × List Int))
 | (x_1387, out_1388, out_1389) => if decide (x_1387 < (d.Ribs.length : Int)) = true then ((geti d.Ribs x_1387).bind fun y1394 => (lim (out_1388 ++ [y1394.High])).bind fun l1401 => (lim (out_1389 ++ [y1394.Low])).bind fun l1406 => some (Sum.inl ((w64 (x_1387 + 1)), l1401, l1406))) else (some (Sum.inr (out_1388, out_1389)))
def F_gusts_ends (n : Nat) (d : Canopy) : Option (gusts_blown × gusts_blown) :=
 (F_gusts_lift n d).bind fun y4 => (loopO n (F_gusts_ends_s1 n d) (0, ([] : List Int), ([] : List Int))).bind fun r1010 => match r1010 with | (out_1007, out_1008) => some ((gusts_blown.mk y4.Low out_1007 d.Shares), (gusts_blown.mk y4.High out_1008 d.Shares))
theorem c_gusts_ends (n : Nat) (H : Hp) (d : Canopy) (d_v0 : Value) (hd_0 : SL H 7 R_Section d_v0 d.Frame.Sections) (d_v7 : Value) (hd_7 : SL H 2 R_Span d_v7 d.Ribs) (d_v8 : Value) (hd_8 : SL H 1 RInt d_v8 d.Shares) (y : gusts_blown × gusts_blown) (hF : F_gusts_ends n d = some y) : HC Try.prog 88 [.agg [d_v0, .int .i64 d.Frame.Low, .int .i64 d.Frame.High, .int .i64 d.Frame.Ease.Num, .int .i64 d.Frame.Ease.Den, .int .i64 d.Frame.Rod, .int .i64 d.Frame.Case, d_v7, d_v8].toArray] H (fun H' v => ∃ ra_v1 ra_v2 rb_v1 rb_v2 : Value, v = .tuple [.agg [.int .i64 y.1.lift, ra_v1, ra_v2].toArray, .agg [.int .i64 y.2.lift, rb_v1, rb_v2].toArray].toArray ∧ SL H' 1 RInt ra_v1 y.1.ribs ∧ SL H' 1 RInt ra_v2 y.1.shares ∧ SL H' 1 RInt rb_v1 y.2.ribs ∧ SL H' 1 RInt rb_v2 y.2.shares) := by
 rw [F_gusts_ends] at hF
 refine HC.of (N := 43) Try.func88 rfl rfl rfl fun w => ?_
 refine JC.seq (JC.region (by rfl) ?_)
 intro hQ
 refine JL.box (cs := [d_v0, .int .i64 d.Frame.Low, .int .i64 d.Frame.High, .int .i64 d.Frame.Ease.Num, .int .i64 d.Frame.Ease.Den, .int .i64 d.Frame.Rod, .int .i64 d.Frame.Case, d_v7, d_v8]) rfl .none rfl ?_
 intro b1
 refine JL.alloc ze_156 .none rfl ?_
 intro b2
 refine JL.alloc ze_156 .none rfl ?_
 intro b3
 refine JL.done hQ (JQ.go (JC.seq (JC.region (by rfl) ?_)))
 intro hQ
 refine JL.loadOwn 2 az_76 rfl rfl rfl .none rfl ?_
 obtain ⟨y4, hy4, hF⟩ := bind_some hF
 refine JL.callS (c_gusts_lift n H d d_v0 hd_0 d_v7 hd_7 d_v8 hd_8 y4 hy4) rfl en_85 .none rfl ?_
 refine JL.alloc ze_39 .none rfl ?_
 intro b5
 refine JL.storeOwn 0 (cs := [.int .i64 y4.Low, .int .i64 y4.High]) az_39 rfl rfl rfl (one_cons rfl (one_cons rfl one_nil)) rfl rfl .none ?_
 refine JL.done hQ (JQ.go (JC.seq ?_))
 obtain ⟨a9, c10, rfl, hh11⟩ := hd_0
 have hd_0 : SL H 7 R_Section (.slice a9 d.Frame.Sections.length c10) d.Frame.Sections := ⟨a9, c10, rfl, hh11⟩
 obtain ⟨a12, c13, rfl, hh14⟩ := hd_7
 have hd_7 : SL H 2 R_Span (.slice a12 d.Ribs.length c13) d.Ribs := ⟨a12, c13, rfl, hh14⟩
 obtain ⟨a15, c16, rfl, hh17⟩ := hd_8
 have hd_8 : SL H 1 RInt (.slice a15 d.Shares.length c16) d.Shares := ⟨a15, c16, rfl, hh17⟩
 refine JC.mixed 12 12 #[false, false, false, false, false, false, false, false, false, false, false, false] [(b5, .cells [.int .i64 y4.Low, .int .i64 y4.High].toArray 39), (b1, .cells [(.slice a9 d.Frame.Sections.length c10), .int .i64 d.Frame.Low, .int .i64 d.Frame.High, .int .i64 d.Frame.Ease.Num, .int .i64 d.Frame.Ease.Den, .int .i64 d.Frame.Rod, .int .i64 d.Frame.Case, (.slice a12 d.Ribs.length c13), (.slice a15 d.Shares.length c16)].toArray 76)] (by rfl) mo_ (by kernel_rfl) (by kernel_rfl) ?_
 intro hQ hE
 refine JA.take 0 (listed' := #[true, false, false, false, false, false, false, false, false, false, false, false]) hQ rfl (by kernel_rfl) (by kernel_rfl) (by kernel_rfl) (by kernel_rfl) (by kernel_rfl) hE (HSub.refl _) (.cons_cons _ (.cons _ (.cons _ (.cons_cons _ (List.nil_sublist _))))) ?_
 refine JL.fieldAddr fo_39_0 rfl .none rfl ?_
 refine JA.cont ?_
 refine JA.take 1 (listed' := #[true, true, false, false, false, false, false, false, false, false, false, false]) hQ rfl (by kernel_rfl) (by kernel_rfl) (by kernel_rfl) (by kernel_rfl) (by kernel_rfl) hE (HSub.refl _) (.cons_cons _ (.cons _ (.cons _ (.cons_cons _ (List.nil_sublist _))))) ?_
 refine JL.loadOwn 0 az_3 rfl rfl rfl .none rfl ?_
 refine JA.cont ?_
 refine JA.take 2 (listed' := #[true, true, true, false, false, false, false, false, false, false, false, false]) hQ rfl (by kernel_rfl) (by kernel_rfl) (by kernel_rfl) (by kernel_rfl) (by kernel_rfl) hE (HSub.refl _) (.cons_cons _ (.cons _ (.cons _ (.cons_cons _ (List.nil_sublist _))))) ?_
 refine JL.fieldAddr fo_76_2 rfl .none rfl ?_
 refine JA.cont ?_
 refine JA.take 3 (listed' := #[true, true, true, true, false, false, false, false, false, false, false, false]) hQ rfl (by kernel_rfl) (by kernel_rfl) (by kernel_rfl) (by kernel_rfl) (by kernel_rfl) hE (HSub.refl _) (.cons_cons _ (.cons _ (.cons _ (.cons_cons _ (List.nil_sublist _))))) ?_
 refine JL.loadOwn 1 az_23 rfl rfl rfl .none rfl ?_
 refine JA.cont ?_
 refine JA.take 4 (listed' := #[true, true, true, true, true, false, false, false, false, false, false, false]) hQ rfl (by kernel_rfl) (by kernel_rfl) (by kernel_rfl) (by kernel_rfl) (by kernel_rfl) hE (HSub.refl _) (.cons_cons _ (.cons _ (.cons _ (.cons_cons _ (List.nil_sublist _))))) ?_
 refine JL.build (l := [.int .i64 y4.Low, .slice none 0 0, (.slice a15 d.Shares.length c16)]) (by kernel_rfl) .none rfl ?_
 refine JA.cont ?_
 refine JA.take 5 (listed' := #[true, true, true, true, true, true, false, false, false, false, false, false]) hQ rfl (by kernel_rfl) (by kernel_rfl) (by kernel_rfl) (by kernel_rfl) (by kernel_rfl) hE (HSub.refl _) (.cons_cons _ (.cons _ (.cons _ (.cons_cons _ (List.nil_sublist _))))) ?_
 refine JL.fieldAddr fo_39_1 rfl .none rfl ?_
 refine JA.cont ?_
 refine JA.take 6 (listed' := #[true, true, true, true, true, true, true, false, false, false, false, false]) hQ rfl (by kernel_rfl) (by kernel_rfl) (by kernel_rfl) (by kernel_rfl) (by kernel_rfl) hE (HSub.refl _) (.cons_cons _ (.cons _ (.cons _ (.cons_cons _ (List.nil_sublist _))))) ?_
 refine JL.loadOwn 0 az_3 rfl rfl rfl .none rfl ?_
 refine JA.cont ?_
 refine JA.take 7 (listed' := #[true, true, true, true, true, true, true, true, false, false, false, false]) hQ rfl (by kernel_rfl) (by kernel_rfl) (by kernel_rfl) (by kernel_rfl) (by kernel_rfl) hE (HSub.refl _) (.cons_cons _ (.cons _ (.cons _ (.cons_cons _ (List.nil_sublist _))))) ?_
 refine JL.fieldAddr fo_76_2 rfl .none rfl ?_
 refine JA.cont ?_
 refine JA.take 8 (listed' := #[true, true, true, true, true, true, true, true, true, false, false, false]) hQ rfl (by kernel_rfl) (by kernel_rfl) (by kernel_rfl) (by kernel_rfl) (by kernel_rfl) hE (HSub.refl _) (.cons_cons _ (.cons _ (.cons _ (.cons_cons _ (List.nil_sublist _))))) ?_
 refine JL.loadOwn 1 az_23 rfl rfl rfl .none rfl ?_
 refine JA.cont ?_
 refine JA.take 9 (listed' := #[true, true, true, true, true, true, true, true, true, true, false, false]) hQ rfl (by kernel_rfl) (by kernel_rfl) (by kernel_rfl) (by kernel_rfl) (by kernel_rfl) hE (HSub.refl _) (.cons_cons _ (.cons _ (.cons _ (.cons_cons _ (List.nil_sublist _))))) ?_
 refine JL.build (l := [.int .i64 y4.High, .slice none 0 0, (.slice a15 d.Shares.length c16)]) (by kernel_rfl) .none rfl ?_
 refine JA.cont ?_
 refine JA.many [10] (by kernel_rfl) (by simp) (all_one ⟨_, #[true, true, true, true, true, true, true, true, true, true, true, false], rfl, (by kernel_rfl), ?_⟩)
 refine JL.storeOwn 2 (cs := [.int .i64 y4.Low, .slice none 0 0, (.slice a15 d.Shares.length c16)]) az_156 rfl rfl rfl (one_cons rfl (one_cons rfl (one_cons (SL.one hd_8) one_nil))) rfl rfl .none ?_
 refine JA.after hE (HSub.refl _) (.cons_cons _ (.cons _ (.cons _ (.cons_cons _ (List.nil_sublist _))))) ?_
 refine JA.many [11] (by kernel_rfl) (by simp) (all_one ⟨_, #[true, true, true, true, true, true, true, true, true, true, true, true], rfl, (by kernel_rfl), ?_⟩)
 refine JL.storeOwn 1 (cs := [.int .i64 y4.High, .slice none 0 0, (.slice a15 d.Shares.length c16)]) az_156 rfl rfl rfl (one_cons rfl (one_cons rfl (one_cons (SL.one hd_8) one_nil))) rfl rfl .none ?_
 refine JA.after hE (HSub.refl _) (.cons_cons _ (.cons _ (.cons _ (.cons_cons _ (List.nil_sublist _))))) ?_
 refine JA.done hQ (by kernel_rfl) ?_
 refine JQ.go (JC.fresh (fun f => f 1 = .pointer (some ⟨b1, 0, none⟩) ∧ f 2 = .pointer (some ⟨b2, 0, none⟩) ∧ f 3 = .pointer (some ⟨b3, 0, none⟩)) ⟨rfl, rfl, rfl⟩ ?_)
 rintro f ⟨hf1, hf2, hf3⟩
 refine (JC.norm (i := 1) hf1 (JC.norm (i := 2) hf2 (JC.norm (i := 3) hf3 ?_)))
 refine JC.seq (JC.seq (JC.region (by rfl) ?_))
 intro hQ
 refine JL.fieldAddr fo_76_1 rfl .none rfl ?_
 refine JL.loadOwn 3 az_24 rfl rfl rfl .none rfl ?_
 refine JL.lenSL (R := R_Span) ul_24 hd_7 .none rfl ?_
 refine JL.move .none rfl ?_
 refine JL.done hQ (JQ.go (JC.newNil (e := 3) (sz := 1) ?_))
 refine JC.newNil (e := 3) (sz := 1) ?_
 obtain ⟨r1010, hlr1010, hKr1010⟩ := bind_some hF
 refine JC.join (fun (x : List Int × List Int) H1009 f bs gs => match x with | (out_1007, out_1008) => ∃ (vout_1007 : Value) (xsout_1007 : List Value) (vout_1008 : Value) (xsout_1008 : List Value), f 2 = .pointer (some ⟨b2, 0, none⟩) ∧ f 3 = .pointer (some ⟨b3, 0, none⟩) ∧ bs = [(b3, .cells [.int .i64 y4.High, vout_1008, (.slice a15 d.Shares.length c16)].toArray 156), (b2, .cells [.int .i64 y4.Low, vout_1007, (.slice a15 d.Shares.length c16)].toArray 156)] ∧ gs = [⟨vout_1007, 3, 1, out_1007.length, xsout_1007⟩, ⟨vout_1008, 3, 1, out_1008.length, xsout_1008⟩] ∧ CH H1009 1 RInt xsout_1007 out_1007 ∧ CH H1009 1 RInt xsout_1008 out_1008 ∧ HSub H H1009 ∧ (out_1007, out_1008) = r1010) ?_ ?_
 ·skip
  refine JC.block (JC.mask [false, true, true, false] [true, true] ?_)
  refine JC.loop hlr1010 (fun (x : Int × List Int × List Int) H1390 f bs gs => match x with | (x_1387, out_1388, out_1389) => ∃ (vout_1388 : Value) (xsout_1388 : List Value) (vout_1389 : Value) (xsout_1389 : List Value), f 2 = .pointer (some ⟨b2, 0, none⟩) ∧ f 3 = .pointer (some ⟨b3, 0, none⟩) ∧ f 20 = (.slice a12 d.Ribs.length c13) ∧ f 21 = .int .i64 (d.Ribs.length : Int) ∧ f 22 = .int .i64 x_1387 ∧ bs = [(b3, .cells [.int .i64 y4.High, vout_1389, (.slice a15 d.Shares.length c16)].toArray 156), (b2, .cells [.int .i64 y4.Low, vout_1388, (.slice a15 d.Shares.length c16)].toArray 156)] ∧ gs = [⟨vout_1388, 3, 1, out_1388.length, xsout_1388⟩, ⟨vout_1389, 3, 1, out_1389.length, xsout_1389⟩] ∧ CH H1390 1 RInt xsout_1388 out_1388 ∧ CH H1390 1 RInt xsout_1389 out_1389 ∧ HSub H H1390) ⟨(.slice none 0 0), [], (.slice none 0 0), [], rfl, rfl, rfl, rfl, rfl, rfl, rfl, CH.nil, CH.nil, (HSub.refl _)⟩ ?_
  rintro ⟨x_1387, out_1388, out_1389⟩ x1392 H1390 f bs gs ⟨vout_1388, xsout_1388, vout_1389, xsout_1389, hf2, hf3, hf20, hf21, hf22, rfl, rfl, hout_1388, hout_1389, hs1390⟩ hF hr1391
  rw [F_gusts_ends_s1] at hF
  refine (JC.norm (i := 2) hf2 (JC.norm (i := 3) hf3 (JC.norm (i := 20) hf20 (JC.norm (i := 21) hf21 (JC.norm (i := 22) hf22 ?_)))))
  refine JC.seq (JC.region (by rfl) ?_)
  intro hQ
  refine JL.bin rfl rfl rfl .none rfl ?_
  refine JL.done hQ (JQ.go (JC.seq ?_))
  rcases ite_some hF with ⟨hc1393, hF⟩ | ⟨hc1393, hF⟩
  ·refine JC.cond_t (b := decide (x_1387 < (d.Ribs.length : Int))) rfl hc1393 ?_
   refine JC.skip (JQ.go (JC.seq (JC.block (JC.seq (JC.region (by rfl) ?_)))))
   intro hQ
   obtain ⟨y1394, hy1394, hF⟩ := bind_some hF
   refine JL.indexSL (R := R_Span) sl_24 (SL.mono R_Span_mono hs1390 hd_7) rfl hy1394 .none rfl ?_
   rintro b1395 o1396 cs1397 hc1398 - rfl
   refine JL.loadH 0 az_39 rfl hc1398 rfl .none rfl ?_
   refine JL.alloc ze_39 .none rfl ?_
   intro b1399
   refine JL.storeOwn 0 (cs := [.int .i64 y1394.Low, .int .i64 y1394.High]) az_39 rfl rfl rfl (one_cons rfl (one_cons rfl one_nil)) rfl rfl .none ?_
   refine JL.done hQ (JQ.go ?_)
   obtain ⟨l1401, hl1401, hF⟩ := bind_some hF
   obtain ⟨l1406, hl1406, hF⟩ := bind_some hF
   refine JC.mixed 16 16 #[false, false, false, false, false, false, false, false, false, false, false, false, false, false, false, false] [(b1399, .cells [.int .i64 y1394.Low, .int .i64 y1394.High].toArray 39)] (by rfl) mo_ (by kernel_rfl) (by kernel_rfl) ?_
   intro hQ hE
   refine JA.cut 4 #[true, true, true, true, true, true, true, true, true, true, true, false, true, false, false, false] (fun H1525 f bs gs => ∃ (b1516 : Nat) (b1492 : Nat) (v1498 : Value) (xs1499 : List Value), f 2 = .pointer (some ⟨b2, 0, none⟩) ∧ f 3 = .pointer (some ⟨b3, 0, none⟩) ∧ f 20 = (.slice a12 d.Ribs.length c13) ∧ f 21 = .int .i64 (d.Ribs.length : Int) ∧ f 22 = .int .i64 x_1387 ∧ f 31 = v1498 ∧ f 33 = vout_1389 ∧ f 36 = .slice (some ⟨b1516, 0, none⟩) 1 1 ∧ f 38 = .pointer (some ⟨b2, 1, none⟩) ∧ bs = [(b1516, .cells [.int .i64 y1394.Low].toArray 3), (b1492, .cells [.int .i64 y1394.High].toArray 3), (b1399, .cells [.int .i64 y1394.Low, .int .i64 y1394.High].toArray 39), (b3, .cells [.int .i64 y4.High, vout_1389, (.slice a15 d.Shares.length c16)].toArray 156), (b2, .cells [.int .i64 y4.Low, vout_1388, (.slice a15 d.Shares.length c16)].toArray 156)] ∧ gs = [⟨v1498, 3, 1, l1401.length, xs1499⟩, ⟨vout_1389, 3, 1, out_1389.length, xsout_1389⟩] ∧ CH H1525 1 RInt xs1499 l1401 ∧ HSub H1390 H1525) ?_ ?_
   ·rintro H1525 f bs gs ⟨b1516, b1492, v1498, xs1499, hf2, hf3, hf20, hf21, hf22, hf31, hf33, hf36, hf38, rfl, rfl, hm1526, hs1525⟩
    refine (JA.norm (i := 2) hf2 (JA.norm (i := 3) hf3 (JA.norm (i := 20) hf20 (JA.norm (i := 21) hf21 (JA.norm (i := 22) hf22 (JA.norm (i := 31) hf31 (JA.norm (i := 33) hf33 (JA.norm (i := 36) hf36 (JA.norm (i := 38) hf38 ?_)))))))))
    refine JA.many [11] (by kernel_rfl) (by simp) (all_one ⟨_, #[true, true, true, true, true, true, true, true, true, true, true, true, true, false, false, false], rfl, (by kernel_rfl), ?_⟩)
    refine JL.appO (R := RInt) 1 0 (l := out_1389) (m := [y1394.Low]) ap_23 rfl ⟨rfl, rfl⟩ rfl (CH.mono RInt.mono hs1525 hout_1389) rfl rfl rfl (CH.cons (cs := [.int .i64 y1394.Low]) rfl rfl CH.nil) rfl (one_cons rfl one_nil) hl1406 .none rfl ?_
    intro v1527 xs1528 hch1529
    refine JA.after hE hs1525 (.cons _ (.cons _ (.cons_cons _ (.cons _ (.cons _ (List.nil_sublist _)))))) ?_
    refine JA.many [13] (by kernel_rfl) (by simp) (all_one ⟨_, #[true, true, true, true, true, true, true, true, true, true, true, true, true, true, false, false], rfl, (by kernel_rfl), ?_⟩)
    refine JL.oneG 0 rfl (fun ho1530 => ?_)
    refine JL.storeOwn 4 (cs := [v1498]) az_23 rfl ho1530.2 rfl (one_cons ho1530.1 one_nil) rfl rfl .none ?_
    refine JA.after hE hs1525 (.cons _ (.cons _ (.cons_cons _ (.cons _ (.cons _ (List.nil_sublist _)))))) ?_
    refine JA.take 14 (listed' := #[true, true, true, true, true, true, true, true, true, true, true, true, true, true, true, false]) hQ rfl (by kernel_rfl) (by kernel_rfl) (by kernel_rfl) (by kernel_rfl) (by kernel_rfl) hE hs1525 (.cons _ (.cons _ (.cons_cons _ (.cons _ (.cons _ (List.nil_sublist _)))))) ?_
    refine JL.fieldAddr fo_156_1 rfl .none rfl ?_
    refine JA.cont ?_
    refine JA.many [15] (by kernel_rfl) (by simp) (all_one ⟨_, #[true, true, true, true, true, true, true, true, true, true, true, true, true, true, true, true], rfl, (by kernel_rfl), ?_⟩)
    refine JL.oneG 1 rfl (fun ho1531 => ?_)
    refine JL.storeOwn 3 (cs := [v1527]) az_23 rfl ho1531.2 rfl (one_cons ho1531.1 one_nil) rfl rfl .none ?_
    refine JA.after hE hs1525 (.cons _ (.cons _ (.cons_cons _ (.cons _ (.cons _ (List.nil_sublist _)))))) ?_
    refine JA.done hQ (by kernel_rfl) ?_
    refine JQ.normal_block (JQ.go (JC.region (by rfl) ?_))
    intro hQ
    refine JL.bin rfl rfl rfl .none rfl ?_
    refine JL.move .none rfl ?_
    refine JL.done hQ ?_
    obtain rfl := Option.some.inj hF
    refine JQ.mask [false, false, false, true, true] [true, true] ?_
    exact JQ.next rfl ⟨v1498, xs1499, v1527, xs1528, rfl, rfl, rfl, rfl, rfl, rfl, rfl, hm1526, hch1529, (HSub.trans hs1390 hs1525)⟩
   intro nd1524_0
   refine JA.cut 5 #[true, true, true, true, true, true, true, true, true, true, false, false, true, false, false, false] (fun H1532 f bs gs => ∃ (b1492 : Nat) (v1498 : Value) (xs1499 : List Value), f 2 = .pointer (some ⟨b2, 0, none⟩) ∧ f 3 = .pointer (some ⟨b3, 0, none⟩) ∧ f 20 = (.slice a12 d.Ribs.length c13) ∧ f 21 = .int .i64 (d.Ribs.length : Int) ∧ f 22 = .int .i64 x_1387 ∧ f 31 = v1498 ∧ f 33 = vout_1389 ∧ f 35 = .int .i64 y1394.Low ∧ f 38 = .pointer (some ⟨b2, 1, none⟩) ∧ bs = [(b1492, .cells [.int .i64 y1394.High].toArray 3), (b1399, .cells [.int .i64 y1394.Low, .int .i64 y1394.High].toArray 39), (b3, .cells [.int .i64 y4.High, vout_1389, (.slice a15 d.Shares.length c16)].toArray 156), (b2, .cells [.int .i64 y4.Low, vout_1388, (.slice a15 d.Shares.length c16)].toArray 156)] ∧ gs = [⟨v1498, 3, 1, l1401.length, xs1499⟩, ⟨vout_1389, 3, 1, out_1389.length, xsout_1389⟩] ∧ CH H1532 1 RInt xs1499 l1401 ∧ HSub H1390 H1532) ?_ ?_
   ·rintro H1532 f bs gs ⟨b1492, v1498, xs1499, hf2, hf3, hf20, hf21, hf22, hf31, hf33, hf35, hf38, rfl, rfl, hm1533, hs1532⟩
    refine (JA.norm (i := 2) hf2 (JA.norm (i := 3) hf3 (JA.norm (i := 20) hf20 (JA.norm (i := 21) hf21 (JA.norm (i := 22) hf22 (JA.norm (i := 31) hf31 (JA.norm (i := 33) hf33 (JA.norm (i := 35) hf35 (JA.norm (i := 38) hf38 ?_)))))))))
    refine JA.many [10] (by kernel_rfl) (by simp) (all_one ⟨_, #[true, true, true, true, true, true, true, true, true, true, true, false, true, false, false, false], rfl, (by kernel_rfl), ?_⟩)
    refine JL.buildSlice (e := 3) (l := [.int .i64 y1394.Low]) (by kernel_rfl) .none rfl ?_
    intro b1534
    refine JA.after hE hs1532 (.cons _ (.cons _ (.cons_cons _ (.cons _ (.cons _ (List.nil_sublist _)))))) ?_
    exact nd1524_0 _ _ _ _ ⟨b1534, b1492, v1498, xs1499, rfl, rfl, rfl, rfl, rfl, rfl, rfl, rfl, rfl, rfl, rfl, hm1533, hs1532⟩
   intro nd1524_1
   refine JA.cut 5 #[true, true, true, true, true, true, true, false, true, true, true, false, true, false, false, false] (fun H1535 f bs gs => ∃ (b1507 : Nat) (b1492 : Nat) (v1498 : Value) (xs1499 : List Value), f 2 = .pointer (some ⟨b2, 0, none⟩) ∧ f 3 = .pointer (some ⟨b3, 0, none⟩) ∧ f 20 = (.slice a12 d.Ribs.length c13) ∧ f 21 = .int .i64 (d.Ribs.length : Int) ∧ f 22 = .int .i64 x_1387 ∧ f 31 = v1498 ∧ f 32 = .pointer (some ⟨b3, 1, none⟩) ∧ f 36 = .slice (some ⟨b1507, 0, none⟩) 1 1 ∧ f 38 = .pointer (some ⟨b2, 1, none⟩) ∧ bs = [(b1507, .cells [.int .i64 y1394.Low].toArray 3), (b1492, .cells [.int .i64 y1394.High].toArray 3), (b1399, .cells [.int .i64 y1394.Low, .int .i64 y1394.High].toArray 39), (b3, .cells [.int .i64 y4.High, vout_1389, (.slice a15 d.Shares.length c16)].toArray 156), (b2, .cells [.int .i64 y4.Low, vout_1388, (.slice a15 d.Shares.length c16)].toArray 156)] ∧ gs = [⟨v1498, 3, 1, l1401.length, xs1499⟩, ⟨vout_1389, 3, 1, out_1389.length, xsout_1389⟩] ∧ CH H1535 1 RInt xs1499 l1401 ∧ HSub H1390 H1535) ?_ ?_
   ·rintro H1535 f bs gs ⟨b1507, b1492, v1498, xs1499, hf2, hf3, hf20, hf21, hf22, hf31, hf32, hf36, hf38, rfl, rfl, hm1536, hs1535⟩
    refine (JA.norm (i := 2) hf2 (JA.norm (i := 3) hf3 (JA.norm (i := 20) hf20 (JA.norm (i := 21) hf21 (JA.norm (i := 22) hf22 (JA.norm (i := 31) hf31 (JA.norm (i := 32) hf32 (JA.norm (i := 36) hf36 (JA.norm (i := 38) hf38 ?_)))))))))
    refine JA.many [7] (by kernel_rfl) (by simp) (all_one ⟨_, #[true, true, true, true, true, true, true, true, true, true, true, false, true, false, false, false], rfl, (by kernel_rfl), ?_⟩)
    refine JL.loadOwn 3 az_23 rfl rfl rfl .none rfl ?_
    refine JA.after hE hs1535 (.cons _ (.cons _ (.cons_cons _ (.cons _ (.cons _ (List.nil_sublist _)))))) ?_
    exact nd1524_0 _ _ _ _ ⟨b1507, b1492, v1498, xs1499, rfl, rfl, rfl, rfl, rfl, rfl, rfl, rfl, rfl, rfl, rfl, hm1536, hs1535⟩
   intro nd1524_2
   refine JA.cut 6 #[true, true, true, true, true, false, true, true, true, true, true, false, false, false, false, false] (fun H1537 f bs gs => ∃ (b1511 : Nat) (b1492 : Nat), f 2 = .pointer (some ⟨b2, 0, none⟩) ∧ f 3 = .pointer (some ⟨b3, 0, none⟩) ∧ f 20 = (.slice a12 d.Ribs.length c13) ∧ f 21 = .int .i64 (d.Ribs.length : Int) ∧ f 22 = .int .i64 x_1387 ∧ f 27 = vout_1388 ∧ f 30 = .slice (some ⟨b1492, 0, none⟩) 1 1 ∧ f 33 = vout_1389 ∧ f 36 = .slice (some ⟨b1511, 0, none⟩) 1 1 ∧ bs = [(b1511, .cells [.int .i64 y1394.Low].toArray 3), (b1492, .cells [.int .i64 y1394.High].toArray 3), (b1399, .cells [.int .i64 y1394.Low, .int .i64 y1394.High].toArray 39), (b3, .cells [.int .i64 y4.High, vout_1389, (.slice a15 d.Shares.length c16)].toArray 156), (b2, .cells [.int .i64 y4.Low, vout_1388, (.slice a15 d.Shares.length c16)].toArray 156)] ∧ gs = [⟨vout_1388, 3, 1, out_1388.length, xsout_1388⟩, ⟨vout_1389, 3, 1, out_1389.length, xsout_1389⟩] ∧ HSub H1390 H1537) ?_ ?_
   ·rintro H1537 f bs gs ⟨b1511, b1492, hf2, hf3, hf20, hf21, hf22, hf27, hf30, hf33, hf36, rfl, rfl, hs1537⟩
    refine (JA.norm (i := 2) hf2 (JA.norm (i := 3) hf3 (JA.norm (i := 20) hf20 (JA.norm (i := 21) hf21 (JA.norm (i := 22) hf22 (JA.norm (i := 27) hf27 (JA.norm (i := 30) hf30 (JA.norm (i := 33) hf33 (JA.norm (i := 36) hf36 ?_)))))))))
    refine JA.many [5] (by kernel_rfl) (by simp) (all_one ⟨_, #[true, true, true, true, true, true, true, true, true, true, true, false, false, false, false, false], rfl, (by kernel_rfl), ?_⟩)
    refine JL.appO (R := RInt) 0 1 (l := out_1388) (m := [y1394.High]) ap_23 rfl ⟨rfl, rfl⟩ rfl (CH.mono RInt.mono hs1537 hout_1388) rfl rfl rfl (CH.cons (cs := [.int .i64 y1394.High]) rfl rfl CH.nil) rfl (one_cons rfl one_nil) hl1401 .none rfl ?_
    intro v1538 xs1539 hch1540
    refine JA.after hE hs1537 (.cons _ (.cons _ (.cons_cons _ (.cons _ (.cons _ (List.nil_sublist _)))))) ?_
    refine JA.take 12 (listed' := #[true, true, true, true, true, true, true, true, true, true, true, false, true, false, false, false]) hQ rfl (by kernel_rfl) (by kernel_rfl) (by kernel_rfl) (by kernel_rfl) (by kernel_rfl) hE hs1537 (.cons _ (.cons _ (.cons_cons _ (.cons _ (.cons _ (List.nil_sublist _)))))) ?_
    refine JL.fieldAddr fo_156_1 rfl .none rfl ?_
    refine JA.cont ?_
    exact nd1524_0 _ _ _ _ ⟨b1511, b1492, v1538, xs1539, rfl, rfl, rfl, rfl, rfl, rfl, rfl, rfl, rfl, rfl, rfl, hch1540, hs1537⟩
   intro nd1524_3
   refine JA.cut 7 #[true, true, true, true, true, false, true, true, true, true, false, false, false, false, false, false] (fun H1541 f bs gs => ∃ (b1492 : Nat), f 2 = .pointer (some ⟨b2, 0, none⟩) ∧ f 3 = .pointer (some ⟨b3, 0, none⟩) ∧ f 20 = (.slice a12 d.Ribs.length c13) ∧ f 21 = .int .i64 (d.Ribs.length : Int) ∧ f 22 = .int .i64 x_1387 ∧ f 27 = vout_1388 ∧ f 30 = .slice (some ⟨b1492, 0, none⟩) 1 1 ∧ f 33 = vout_1389 ∧ f 35 = .int .i64 y1394.Low ∧ bs = [(b1492, .cells [.int .i64 y1394.High].toArray 3), (b1399, .cells [.int .i64 y1394.Low, .int .i64 y1394.High].toArray 39), (b3, .cells [.int .i64 y4.High, vout_1389, (.slice a15 d.Shares.length c16)].toArray 156), (b2, .cells [.int .i64 y4.Low, vout_1388, (.slice a15 d.Shares.length c16)].toArray 156)] ∧ gs = [⟨vout_1388, 3, 1, out_1388.length, xsout_1388⟩, ⟨vout_1389, 3, 1, out_1389.length, xsout_1389⟩] ∧ HSub H1390 H1541) ?_ ?_
   ·rintro H1541 f bs gs ⟨b1492, hf2, hf3, hf20, hf21, hf22, hf27, hf30, hf33, hf35, rfl, rfl, hs1541⟩
    refine (JA.norm (i := 2) hf2 (JA.norm (i := 3) hf3 (JA.norm (i := 20) hf20 (JA.norm (i := 21) hf21 (JA.norm (i := 22) hf22 (JA.norm (i := 27) hf27 (JA.norm (i := 30) hf30 (JA.norm (i := 33) hf33 (JA.norm (i := 35) hf35 ?_)))))))))
    refine JA.many [5, 10] (by kernel_rfl) (by simp) (all_cons ⟨_, #[true, true, true, true, true, true, true, true, true, true, false, false, false, false, false, false], rfl, (by kernel_rfl), ?_⟩ (all_one ⟨_, #[true, true, true, true, true, false, true, true, true, true, true, false, false, false, false, false], rfl, (by kernel_rfl), ?_⟩))
    ·skip
     refine JL.appO (R := RInt) 0 0 (l := out_1388) (m := [y1394.High]) ap_23 rfl ⟨rfl, rfl⟩ rfl (CH.mono RInt.mono hs1541 hout_1388) rfl rfl rfl (CH.cons (cs := [.int .i64 y1394.High]) rfl rfl CH.nil) rfl (one_cons rfl one_nil) hl1401 .none rfl ?_
     intro v1542 xs1543 hch1544
     refine JA.after hE hs1541 (.cons _ (.cons_cons _ (.cons _ (.cons _ (List.nil_sublist _))))) ?_
     refine JA.take 12 (listed' := #[true, true, true, true, true, true, true, true, true, true, false, false, true, false, false, false]) hQ rfl (by kernel_rfl) (by kernel_rfl) (by kernel_rfl) (by kernel_rfl) (by kernel_rfl) hE hs1541 (.cons _ (.cons_cons _ (.cons _ (.cons _ (List.nil_sublist _))))) ?_
     refine JL.fieldAddr fo_156_1 rfl .none rfl ?_
     refine JA.cont ?_
     exact nd1524_1 _ _ _ _ ⟨b1492, v1542, xs1543, rfl, rfl, rfl, rfl, rfl, rfl, rfl, rfl, rfl, rfl, rfl, hch1544, hs1541⟩
    ·skip
     refine JL.buildSlice (e := 3) (l := [.int .i64 y1394.Low]) (by kernel_rfl) .none rfl ?_
     intro b1545
     refine JA.after hE hs1541 (.cons _ (.cons _ (.cons_cons _ (.cons _ (.cons _ (List.nil_sublist _)))))) ?_
     exact nd1524_3 _ _ _ _ ⟨b1545, b1492, rfl, rfl, rfl, rfl, rfl, rfl, rfl, rfl, rfl, rfl, rfl, hs1541⟩
   intro nd1524_4
   refine JA.cut 7 #[true, true, true, true, true, false, true, false, true, true, true, false, false, false, false, false] (fun H1546 f bs gs => ∃ (b1501 : Nat) (b1492 : Nat), f 2 = .pointer (some ⟨b2, 0, none⟩) ∧ f 3 = .pointer (some ⟨b3, 0, none⟩) ∧ f 20 = (.slice a12 d.Ribs.length c13) ∧ f 21 = .int .i64 (d.Ribs.length : Int) ∧ f 22 = .int .i64 x_1387 ∧ f 27 = vout_1388 ∧ f 30 = .slice (some ⟨b1492, 0, none⟩) 1 1 ∧ f 32 = .pointer (some ⟨b3, 1, none⟩) ∧ f 36 = .slice (some ⟨b1501, 0, none⟩) 1 1 ∧ bs = [(b1501, .cells [.int .i64 y1394.Low].toArray 3), (b1492, .cells [.int .i64 y1394.High].toArray 3), (b1399, .cells [.int .i64 y1394.Low, .int .i64 y1394.High].toArray 39), (b3, .cells [.int .i64 y4.High, vout_1389, (.slice a15 d.Shares.length c16)].toArray 156), (b2, .cells [.int .i64 y4.Low, vout_1388, (.slice a15 d.Shares.length c16)].toArray 156)] ∧ gs = [⟨vout_1388, 3, 1, out_1388.length, xsout_1388⟩, ⟨vout_1389, 3, 1, out_1389.length, xsout_1389⟩] ∧ HSub H1390 H1546) ?_ ?_
   ·rintro H1546 f bs gs ⟨b1501, b1492, hf2, hf3, hf20, hf21, hf22, hf27, hf30, hf32, hf36, rfl, rfl, hs1546⟩
    refine (JA.norm (i := 2) hf2 (JA.norm (i := 3) hf3 (JA.norm (i := 20) hf20 (JA.norm (i := 21) hf21 (JA.norm (i := 22) hf22 (JA.norm (i := 27) hf27 (JA.norm (i := 30) hf30 (JA.norm (i := 32) hf32 (JA.norm (i := 36) hf36 ?_)))))))))
    refine JA.many [5, 7] (by kernel_rfl) (by simp) (all_cons ⟨_, #[true, true, true, true, true, true, true, false, true, true, true, false, false, false, false, false], rfl, (by kernel_rfl), ?_⟩ (all_one ⟨_, #[true, true, true, true, true, false, true, true, true, true, true, false, false, false, false, false], rfl, (by kernel_rfl), ?_⟩))
    ·skip
     refine JL.appO (R := RInt) 0 1 (l := out_1388) (m := [y1394.High]) ap_23 rfl ⟨rfl, rfl⟩ rfl (CH.mono RInt.mono hs1546 hout_1388) rfl rfl rfl (CH.cons (cs := [.int .i64 y1394.High]) rfl rfl CH.nil) rfl (one_cons rfl one_nil) hl1401 .none rfl ?_
     intro v1547 xs1548 hch1549
     refine JA.after hE hs1546 (.cons _ (.cons _ (.cons_cons _ (.cons _ (.cons _ (List.nil_sublist _)))))) ?_
     refine JA.take 12 (listed' := #[true, true, true, true, true, true, true, false, true, true, true, false, true, false, false, false]) hQ rfl (by kernel_rfl) (by kernel_rfl) (by kernel_rfl) (by kernel_rfl) (by kernel_rfl) hE hs1546 (.cons _ (.cons _ (.cons_cons _ (.cons _ (.cons _ (List.nil_sublist _)))))) ?_
     refine JL.fieldAddr fo_156_1 rfl .none rfl ?_
     refine JA.cont ?_
     exact nd1524_2 _ _ _ _ ⟨b1501, b1492, v1547, xs1548, rfl, rfl, rfl, rfl, rfl, rfl, rfl, rfl, rfl, rfl, rfl, hch1549, hs1546⟩
    ·skip
     refine JL.loadOwn 3 az_23 rfl rfl rfl .none rfl ?_
     refine JA.after hE hs1546 (.cons _ (.cons _ (.cons_cons _ (.cons _ (.cons _ (List.nil_sublist _)))))) ?_
     exact nd1524_3 _ _ _ _ ⟨b1501, b1492, rfl, rfl, rfl, rfl, rfl, rfl, rfl, rfl, rfl, rfl, rfl, hs1546⟩
   intro nd1524_5
   refine JA.cut 7 #[true, true, true, true, false, false, true, true, true, true, true, false, false, false, false, false] (fun H1550 f bs gs => ∃ (b1503 : Nat), f 2 = .pointer (some ⟨b2, 0, none⟩) ∧ f 3 = .pointer (some ⟨b3, 0, none⟩) ∧ f 20 = (.slice a12 d.Ribs.length c13) ∧ f 21 = .int .i64 (d.Ribs.length : Int) ∧ f 22 = .int .i64 x_1387 ∧ f 27 = vout_1388 ∧ f 29 = .int .i64 y1394.High ∧ f 33 = vout_1389 ∧ f 36 = .slice (some ⟨b1503, 0, none⟩) 1 1 ∧ bs = [(b1503, .cells [.int .i64 y1394.Low].toArray 3), (b1399, .cells [.int .i64 y1394.Low, .int .i64 y1394.High].toArray 39), (b3, .cells [.int .i64 y4.High, vout_1389, (.slice a15 d.Shares.length c16)].toArray 156), (b2, .cells [.int .i64 y4.Low, vout_1388, (.slice a15 d.Shares.length c16)].toArray 156)] ∧ gs = [⟨vout_1388, 3, 1, out_1388.length, xsout_1388⟩, ⟨vout_1389, 3, 1, out_1389.length, xsout_1389⟩] ∧ HSub H1390 H1550) ?_ ?_
   ·rintro H1550 f bs gs ⟨b1503, hf2, hf3, hf20, hf21, hf22, hf27, hf29, hf33, hf36, rfl, rfl, hs1550⟩
    refine (JA.norm (i := 2) hf2 (JA.norm (i := 3) hf3 (JA.norm (i := 20) hf20 (JA.norm (i := 21) hf21 (JA.norm (i := 22) hf22 (JA.norm (i := 27) hf27 (JA.norm (i := 29) hf29 (JA.norm (i := 33) hf33 (JA.norm (i := 36) hf36 ?_)))))))))
    refine JA.many [4] (by kernel_rfl) (by simp) (all_one ⟨_, #[true, true, true, true, true, false, true, true, true, true, true, false, false, false, false, false], rfl, (by kernel_rfl), ?_⟩)
    refine JL.buildSlice (e := 3) (l := [.int .i64 y1394.High]) (by kernel_rfl) .none rfl ?_
    intro b1551
    refine JA.after hE hs1550 (.cons _ (.cons _ (.cons_cons _ (.cons _ (.cons _ (List.nil_sublist _)))))) ?_
    refine JA.perm (swapAt_perm 0 _) ?_
    exact nd1524_3 _ _ _ _ ⟨b1503, b1551, rfl, rfl, rfl, rfl, rfl, rfl, rfl, rfl, rfl, rfl, rfl, hs1550⟩
   intro nd1524_6
   refine JA.cut 7 #[true, false, true, true, true, false, true, true, true, true, true, false, false, false, false, false] (fun H1552 f bs gs => ∃ (b1505 : Nat) (b1490 : Nat), f 2 = .pointer (some ⟨b2, 0, none⟩) ∧ f 3 = .pointer (some ⟨b3, 0, none⟩) ∧ f 20 = (.slice a12 d.Ribs.length c13) ∧ f 21 = .int .i64 (d.Ribs.length : Int) ∧ f 22 = .int .i64 x_1387 ∧ f 26 = .pointer (some ⟨b2, 1, none⟩) ∧ f 30 = .slice (some ⟨b1490, 0, none⟩) 1 1 ∧ f 33 = vout_1389 ∧ f 36 = .slice (some ⟨b1505, 0, none⟩) 1 1 ∧ bs = [(b1505, .cells [.int .i64 y1394.Low].toArray 3), (b1490, .cells [.int .i64 y1394.High].toArray 3), (b1399, .cells [.int .i64 y1394.Low, .int .i64 y1394.High].toArray 39), (b3, .cells [.int .i64 y4.High, vout_1389, (.slice a15 d.Shares.length c16)].toArray 156), (b2, .cells [.int .i64 y4.Low, vout_1388, (.slice a15 d.Shares.length c16)].toArray 156)] ∧ gs = [⟨vout_1388, 3, 1, out_1388.length, xsout_1388⟩, ⟨vout_1389, 3, 1, out_1389.length, xsout_1389⟩] ∧ HSub H1390 H1552) ?_ ?_
   ·rintro H1552 f bs gs ⟨b1505, b1490, hf2, hf3, hf20, hf21, hf22, hf26, hf30, hf33, hf36, rfl, rfl, hs1552⟩
    refine (JA.norm (i := 2) hf2 (JA.norm (i := 3) hf3 (JA.norm (i := 20) hf20 (JA.norm (i := 21) hf21 (JA.norm (i := 22) hf22 (JA.norm (i := 26) hf26 (JA.norm (i := 30) hf30 (JA.norm (i := 33) hf33 (JA.norm (i := 36) hf36 ?_)))))))))
    refine JA.many [1] (by kernel_rfl) (by simp) (all_one ⟨_, #[true, true, true, true, true, false, true, true, true, true, true, false, false, false, false, false], rfl, (by kernel_rfl), ?_⟩)
    refine JL.loadOwn 4 az_23 rfl rfl rfl .none rfl ?_
    refine JA.after hE hs1552 (.cons _ (.cons _ (.cons_cons _ (.cons _ (.cons _ (List.nil_sublist _)))))) ?_
    exact nd1524_3 _ _ _ _ ⟨b1505, b1490, rfl, rfl, rfl, rfl, rfl, rfl, rfl, rfl, rfl, rfl, rfl, hs1552⟩
   intro nd1524_7
   refine JA.cut 8 #[true, true, true, true, true, false, true, false, true, true, false, false, false, false, false, false] (fun H1553 f bs gs => ∃ (b1492 : Nat), f 2 = .pointer (some ⟨b2, 0, none⟩) ∧ f 3 = .pointer (some ⟨b3, 0, none⟩) ∧ f 20 = (.slice a12 d.Ribs.length c13) ∧ f 21 = .int .i64 (d.Ribs.length : Int) ∧ f 22 = .int .i64 x_1387 ∧ f 27 = vout_1388 ∧ f 30 = .slice (some ⟨b1492, 0, none⟩) 1 1 ∧ f 32 = .pointer (some ⟨b3, 1, none⟩) ∧ f 35 = .int .i64 y1394.Low ∧ bs = [(b1492, .cells [.int .i64 y1394.High].toArray 3), (b1399, .cells [.int .i64 y1394.Low, .int .i64 y1394.High].toArray 39), (b3, .cells [.int .i64 y4.High, vout_1389, (.slice a15 d.Shares.length c16)].toArray 156), (b2, .cells [.int .i64 y4.Low, vout_1388, (.slice a15 d.Shares.length c16)].toArray 156)] ∧ gs = [⟨vout_1388, 3, 1, out_1388.length, xsout_1388⟩, ⟨vout_1389, 3, 1, out_1389.length, xsout_1389⟩] ∧ HSub H1390 H1553) ?_ ?_
   ·rintro H1553 f bs gs ⟨b1492, hf2, hf3, hf20, hf21, hf22, hf27, hf30, hf32, hf35, rfl, rfl, hs1553⟩
    refine (JA.norm (i := 2) hf2 (JA.norm (i := 3) hf3 (JA.norm (i := 20) hf20 (JA.norm (i := 21) hf21 (JA.norm (i := 22) hf22 (JA.norm (i := 27) hf27 (JA.norm (i := 30) hf30 (JA.norm (i := 32) hf32 (JA.norm (i := 35) hf35 ?_)))))))))
    refine JA.many [5, 7, 10] (by kernel_rfl) (by simp) (all_cons ⟨_, #[true, true, true, true, true, true, true, false, true, true, false, false, false, false, false, false], rfl, (by kernel_rfl), ?_⟩ (all_cons ⟨_, #[true, true, true, true, true, false, true, true, true, true, false, false, false, false, false, false], rfl, (by kernel_rfl), ?_⟩ (all_one ⟨_, #[true, true, true, true, true, false, true, false, true, true, true, false, false, false, false, false], rfl, (by kernel_rfl), ?_⟩)))
    ·skip
     refine JL.appO (R := RInt) 0 0 (l := out_1388) (m := [y1394.High]) ap_23 rfl ⟨rfl, rfl⟩ rfl (CH.mono RInt.mono hs1553 hout_1388) rfl rfl rfl (CH.cons (cs := [.int .i64 y1394.High]) rfl rfl CH.nil) rfl (one_cons rfl one_nil) hl1401 .none rfl ?_
     intro v1554 xs1555 hch1556
     refine JA.after hE hs1553 (.cons _ (.cons_cons _ (.cons _ (.cons _ (List.nil_sublist _))))) ?_
     refine JA.take 12 (listed' := #[true, true, true, true, true, true, true, false, true, true, false, false, true, false, false, false]) hQ rfl (by kernel_rfl) (by kernel_rfl) (by kernel_rfl) (by kernel_rfl) (by kernel_rfl) hE hs1553 (.cons _ (.cons_cons _ (.cons _ (.cons _ (List.nil_sublist _))))) ?_
     refine JL.fieldAddr fo_156_1 rfl .none rfl ?_
     refine JA.cont ?_
     refine JA.many [7, 10] (by kernel_rfl) (by simp) (all_cons ⟨_, #[true, true, true, true, true, true, true, true, true, true, false, false, true, false, false, false], rfl, (by kernel_rfl), ?_⟩ (all_one ⟨_, #[true, true, true, true, true, true, true, false, true, true, true, false, true, false, false, false], rfl, (by kernel_rfl), ?_⟩))
     ·skip
      refine JL.loadOwn 2 az_23 rfl rfl rfl .none rfl ?_
      refine JA.after hE hs1553 (.cons _ (.cons_cons _ (.cons _ (.cons _ (List.nil_sublist _))))) ?_
      exact nd1524_1 _ _ _ _ ⟨b1492, v1554, xs1555, rfl, rfl, rfl, rfl, rfl, rfl, rfl, rfl, rfl, rfl, rfl, hch1556, hs1553⟩
     ·skip
      refine JL.buildSlice (e := 3) (l := [.int .i64 y1394.Low]) (by kernel_rfl) .none rfl ?_
      intro b1557
      refine JA.after hE hs1553 (.cons _ (.cons _ (.cons_cons _ (.cons _ (.cons _ (List.nil_sublist _)))))) ?_
      exact nd1524_2 _ _ _ _ ⟨b1557, b1492, v1554, xs1555, rfl, rfl, rfl, rfl, rfl, rfl, rfl, rfl, rfl, rfl, rfl, hch1556, hs1553⟩
    ·skip
     refine JL.loadOwn 2 az_23 rfl rfl rfl .none rfl ?_
     refine JA.after hE hs1553 (.cons _ (.cons_cons _ (.cons _ (.cons _ (List.nil_sublist _))))) ?_
     exact nd1524_4 _ _ _ _ ⟨b1492, rfl, rfl, rfl, rfl, rfl, rfl, rfl, rfl, rfl, rfl, rfl, hs1553⟩
    ·skip
     refine JL.buildSlice (e := 3) (l := [.int .i64 y1394.Low]) (by kernel_rfl) .none rfl ?_
     intro b1558
     refine JA.after hE hs1553 (.cons _ (.cons _ (.cons_cons _ (.cons _ (.cons _ (List.nil_sublist _)))))) ?_
     exact nd1524_5 _ _ _ _ ⟨b1558, b1492, rfl, rfl, rfl, rfl, rfl, rfl, rfl, rfl, rfl, rfl, rfl, hs1553⟩
   intro nd1524_8
   refine JA.cut 8 #[true, true, true, true, false, false, true, true, true, true, false, false, false, false, false, false] (fun H1559 f bs gs => f 2 = .pointer (some ⟨b2, 0, none⟩) ∧ f 3 = .pointer (some ⟨b3, 0, none⟩) ∧ f 20 = (.slice a12 d.Ribs.length c13) ∧ f 21 = .int .i64 (d.Ribs.length : Int) ∧ f 22 = .int .i64 x_1387 ∧ f 27 = vout_1388 ∧ f 29 = .int .i64 y1394.High ∧ f 33 = vout_1389 ∧ f 35 = .int .i64 y1394.Low ∧ bs = [(b1399, .cells [.int .i64 y1394.Low, .int .i64 y1394.High].toArray 39), (b3, .cells [.int .i64 y4.High, vout_1389, (.slice a15 d.Shares.length c16)].toArray 156), (b2, .cells [.int .i64 y4.Low, vout_1388, (.slice a15 d.Shares.length c16)].toArray 156)] ∧ gs = [⟨vout_1388, 3, 1, out_1388.length, xsout_1388⟩, ⟨vout_1389, 3, 1, out_1389.length, xsout_1389⟩] ∧ HSub H1390 H1559) ?_ ?_
   ·rintro H1559 f bs gs ⟨hf2, hf3, hf20, hf21, hf22, hf27, hf29, hf33, hf35, rfl, rfl, hs1559⟩
    refine (JA.norm (i := 2) hf2 (JA.norm (i := 3) hf3 (JA.norm (i := 20) hf20 (JA.norm (i := 21) hf21 (JA.norm (i := 22) hf22 (JA.norm (i := 27) hf27 (JA.norm (i := 29) hf29 (JA.norm (i := 33) hf33 (JA.norm (i := 35) hf35 ?_)))))))))
    refine JA.many [4, 10] (by kernel_rfl) (by simp) (all_cons ⟨_, #[true, true, true, true, true, false, true, true, true, true, false, false, false, false, false, false], rfl, (by kernel_rfl), ?_⟩ (all_one ⟨_, #[true, true, true, true, false, false, true, true, true, true, true, false, false, false, false, false], rfl, (by kernel_rfl), ?_⟩))
    ·skip
     refine JL.buildSlice (e := 3) (l := [.int .i64 y1394.High]) (by kernel_rfl) .none rfl ?_
     intro b1560
     refine JA.after hE hs1559 (.cons _ (.cons_cons _ (.cons _ (.cons _ (List.nil_sublist _))))) ?_
     exact nd1524_4 _ _ _ _ ⟨b1560, rfl, rfl, rfl, rfl, rfl, rfl, rfl, rfl, rfl, rfl, rfl, hs1559⟩
    ·skip
     refine JL.buildSlice (e := 3) (l := [.int .i64 y1394.Low]) (by kernel_rfl) .none rfl ?_
     intro b1561
     refine JA.after hE hs1559 (.cons _ (.cons_cons _ (.cons _ (.cons _ (List.nil_sublist _))))) ?_
     exact nd1524_6 _ _ _ _ ⟨b1561, rfl, rfl, rfl, rfl, rfl, rfl, rfl, rfl, rfl, rfl, rfl, hs1559⟩
   intro nd1524_9
   refine JA.cut 8 #[true, true, true, true, false, false, true, false, true, true, true, false, false, false, false, false] (fun H1562 f bs gs => ∃ (b1493 : Nat), f 2 = .pointer (some ⟨b2, 0, none⟩) ∧ f 3 = .pointer (some ⟨b3, 0, none⟩) ∧ f 20 = (.slice a12 d.Ribs.length c13) ∧ f 21 = .int .i64 (d.Ribs.length : Int) ∧ f 22 = .int .i64 x_1387 ∧ f 27 = vout_1388 ∧ f 29 = .int .i64 y1394.High ∧ f 32 = .pointer (some ⟨b3, 1, none⟩) ∧ f 36 = .slice (some ⟨b1493, 0, none⟩) 1 1 ∧ bs = [(b1493, .cells [.int .i64 y1394.Low].toArray 3), (b1399, .cells [.int .i64 y1394.Low, .int .i64 y1394.High].toArray 39), (b3, .cells [.int .i64 y4.High, vout_1389, (.slice a15 d.Shares.length c16)].toArray 156), (b2, .cells [.int .i64 y4.Low, vout_1388, (.slice a15 d.Shares.length c16)].toArray 156)] ∧ gs = [⟨vout_1388, 3, 1, out_1388.length, xsout_1388⟩, ⟨vout_1389, 3, 1, out_1389.length, xsout_1389⟩] ∧ HSub H1390 H1562) ?_ ?_
   ·rintro H1562 f bs gs ⟨b1493, hf2, hf3, hf20, hf21, hf22, hf27, hf29, hf32, hf36, rfl, rfl, hs1562⟩
    refine (JA.norm (i := 2) hf2 (JA.norm (i := 3) hf3 (JA.norm (i := 20) hf20 (JA.norm (i := 21) hf21 (JA.norm (i := 22) hf22 (JA.norm (i := 27) hf27 (JA.norm (i := 29) hf29 (JA.norm (i := 32) hf32 (JA.norm (i := 36) hf36 ?_)))))))))
    refine JA.many [4, 7] (by kernel_rfl) (by simp) (all_cons ⟨_, #[true, true, true, true, true, false, true, false, true, true, true, false, false, false, false, false], rfl, (by kernel_rfl), ?_⟩ (all_one ⟨_, #[true, true, true, true, false, false, true, true, true, true, true, false, false, false, false, false], rfl, (by kernel_rfl), ?_⟩))
    ·skip
     refine JL.buildSlice (e := 3) (l := [.int .i64 y1394.High]) (by kernel_rfl) .none rfl ?_
     intro b1563
     refine JA.after hE hs1562 (.cons _ (.cons _ (.cons_cons _ (.cons _ (.cons _ (List.nil_sublist _)))))) ?_
     refine JA.perm (swapAt_perm 0 _) ?_
     exact nd1524_5 _ _ _ _ ⟨b1493, b1563, rfl, rfl, rfl, rfl, rfl, rfl, rfl, rfl, rfl, rfl, rfl, hs1562⟩
    ·skip
     refine JL.loadOwn 2 az_23 rfl rfl rfl .none rfl ?_
     refine JA.after hE hs1562 (.cons _ (.cons_cons _ (.cons _ (.cons _ (List.nil_sublist _))))) ?_
     exact nd1524_6 _ _ _ _ ⟨b1493, rfl, rfl, rfl, rfl, rfl, rfl, rfl, rfl, rfl, rfl, rfl, hs1562⟩
   intro nd1524_10
   refine JA.cut 8 #[true, false, true, true, true, false, true, true, true, true, false, false, false, false, false, false] (fun H1564 f bs gs => ∃ (b1490 : Nat), f 2 = .pointer (some ⟨b2, 0, none⟩) ∧ f 3 = .pointer (some ⟨b3, 0, none⟩) ∧ f 20 = (.slice a12 d.Ribs.length c13) ∧ f 21 = .int .i64 (d.Ribs.length : Int) ∧ f 22 = .int .i64 x_1387 ∧ f 26 = .pointer (some ⟨b2, 1, none⟩) ∧ f 30 = .slice (some ⟨b1490, 0, none⟩) 1 1 ∧ f 33 = vout_1389 ∧ f 35 = .int .i64 y1394.Low ∧ bs = [(b1490, .cells [.int .i64 y1394.High].toArray 3), (b1399, .cells [.int .i64 y1394.Low, .int .i64 y1394.High].toArray 39), (b3, .cells [.int .i64 y4.High, vout_1389, (.slice a15 d.Shares.length c16)].toArray 156), (b2, .cells [.int .i64 y4.Low, vout_1388, (.slice a15 d.Shares.length c16)].toArray 156)] ∧ gs = [⟨vout_1388, 3, 1, out_1388.length, xsout_1388⟩, ⟨vout_1389, 3, 1, out_1389.length, xsout_1389⟩] ∧ HSub H1390 H1564) ?_ ?_
   ·rintro H1564 f bs gs ⟨b1490, hf2, hf3, hf20, hf21, hf22, hf26, hf30, hf33, hf35, rfl, rfl, hs1564⟩
    refine (JA.norm (i := 2) hf2 (JA.norm (i := 3) hf3 (JA.norm (i := 20) hf20 (JA.norm (i := 21) hf21 (JA.norm (i := 22) hf22 (JA.norm (i := 26) hf26 (JA.norm (i := 30) hf30 (JA.norm (i := 33) hf33 (JA.norm (i := 35) hf35 ?_)))))))))
    refine JA.many [1, 10] (by kernel_rfl) (by simp) (all_cons ⟨_, #[true, true, true, true, true, false, true, true, true, true, false, false, false, false, false, false], rfl, (by kernel_rfl), ?_⟩ (all_one ⟨_, #[true, false, true, true, true, false, true, true, true, true, true, false, false, false, false, false], rfl, (by kernel_rfl), ?_⟩))
    ·skip
     refine JL.loadOwn 3 az_23 rfl rfl rfl .none rfl ?_
     refine JA.after hE hs1564 (.cons _ (.cons_cons _ (.cons _ (.cons _ (List.nil_sublist _))))) ?_
     exact nd1524_4 _ _ _ _ ⟨b1490, rfl, rfl, rfl, rfl, rfl, rfl, rfl, rfl, rfl, rfl, rfl, hs1564⟩
    ·skip
     refine JL.buildSlice (e := 3) (l := [.int .i64 y1394.Low]) (by kernel_rfl) .none rfl ?_
     intro b1565
     refine JA.after hE hs1564 (.cons _ (.cons _ (.cons_cons _ (.cons _ (.cons _ (List.nil_sublist _)))))) ?_
     exact nd1524_7 _ _ _ _ ⟨b1565, b1490, rfl, rfl, rfl, rfl, rfl, rfl, rfl, rfl, rfl, rfl, rfl, hs1564⟩
   intro nd1524_11
   refine JA.cut 8 #[true, false, true, true, true, false, true, false, true, true, true, false, false, false, false, false] (fun H1566 f bs gs => ∃ (b1494 : Nat) (b1490 : Nat), f 2 = .pointer (some ⟨b2, 0, none⟩) ∧ f 3 = .pointer (some ⟨b3, 0, none⟩) ∧ f 20 = (.slice a12 d.Ribs.length c13) ∧ f 21 = .int .i64 (d.Ribs.length : Int) ∧ f 22 = .int .i64 x_1387 ∧ f 26 = .pointer (some ⟨b2, 1, none⟩) ∧ f 30 = .slice (some ⟨b1490, 0, none⟩) 1 1 ∧ f 32 = .pointer (some ⟨b3, 1, none⟩) ∧ f 36 = .slice (some ⟨b1494, 0, none⟩) 1 1 ∧ bs = [(b1494, .cells [.int .i64 y1394.Low].toArray 3), (b1490, .cells [.int .i64 y1394.High].toArray 3), (b1399, .cells [.int .i64 y1394.Low, .int .i64 y1394.High].toArray 39), (b3, .cells [.int .i64 y4.High, vout_1389, (.slice a15 d.Shares.length c16)].toArray 156), (b2, .cells [.int .i64 y4.Low, vout_1388, (.slice a15 d.Shares.length c16)].toArray 156)] ∧ gs = [⟨vout_1388, 3, 1, out_1388.length, xsout_1388⟩, ⟨vout_1389, 3, 1, out_1389.length, xsout_1389⟩] ∧ HSub H1390 H1566) ?_ ?_
   ·rintro H1566 f bs gs ⟨b1494, b1490, hf2, hf3, hf20, hf21, hf22, hf26, hf30, hf32, hf36, rfl, rfl, hs1566⟩
    refine (JA.norm (i := 2) hf2 (JA.norm (i := 3) hf3 (JA.norm (i := 20) hf20 (JA.norm (i := 21) hf21 (JA.norm (i := 22) hf22 (JA.norm (i := 26) hf26 (JA.norm (i := 30) hf30 (JA.norm (i := 32) hf32 (JA.norm (i := 36) hf36 ?_)))))))))
    refine JA.many [1, 7] (by kernel_rfl) (by simp) (all_cons ⟨_, #[true, true, true, true, true, false, true, false, true, true, true, false, false, false, false, false], rfl, (by kernel_rfl), ?_⟩ (all_one ⟨_, #[true, false, true, true, true, false, true, true, true, true, true, false, false, false, false, false], rfl, (by kernel_rfl), ?_⟩))
    ·skip
     refine JL.loadOwn 4 az_23 rfl rfl rfl .none rfl ?_
     refine JA.after hE hs1566 (.cons _ (.cons _ (.cons_cons _ (.cons _ (.cons _ (List.nil_sublist _)))))) ?_
     exact nd1524_5 _ _ _ _ ⟨b1494, b1490, rfl, rfl, rfl, rfl, rfl, rfl, rfl, rfl, rfl, rfl, rfl, hs1566⟩
    ·skip
     refine JL.loadOwn 3 az_23 rfl rfl rfl .none rfl ?_
     refine JA.after hE hs1566 (.cons _ (.cons _ (.cons_cons _ (.cons _ (.cons _ (List.nil_sublist _)))))) ?_
     exact nd1524_7 _ _ _ _ ⟨b1494, b1490, rfl, rfl, rfl, rfl, rfl, rfl, rfl, rfl, rfl, rfl, rfl, hs1566⟩
   intro nd1524_12
   refine JA.cut 8 #[true, false, true, true, false, false, true, true, true, true, true, false, false, false, false, false] (fun H1567 f bs gs => ∃ (b1496 : Nat), f 2 = .pointer (some ⟨b2, 0, none⟩) ∧ f 3 = .pointer (some ⟨b3, 0, none⟩) ∧ f 20 = (.slice a12 d.Ribs.length c13) ∧ f 21 = .int .i64 (d.Ribs.length : Int) ∧ f 22 = .int .i64 x_1387 ∧ f 26 = .pointer (some ⟨b2, 1, none⟩) ∧ f 29 = .int .i64 y1394.High ∧ f 33 = vout_1389 ∧ f 36 = .slice (some ⟨b1496, 0, none⟩) 1 1 ∧ bs = [(b1496, .cells [.int .i64 y1394.Low].toArray 3), (b1399, .cells [.int .i64 y1394.Low, .int .i64 y1394.High].toArray 39), (b3, .cells [.int .i64 y4.High, vout_1389, (.slice a15 d.Shares.length c16)].toArray 156), (b2, .cells [.int .i64 y4.Low, vout_1388, (.slice a15 d.Shares.length c16)].toArray 156)] ∧ gs = [⟨vout_1388, 3, 1, out_1388.length, xsout_1388⟩, ⟨vout_1389, 3, 1, out_1389.length, xsout_1389⟩] ∧ HSub H1390 H1567) ?_ ?_
   ·rintro H1567 f bs gs ⟨b1496, hf2, hf3, hf20, hf21, hf22, hf26, hf29, hf33, hf36, rfl, rfl, hs1567⟩
    refine (JA.norm (i := 2) hf2 (JA.norm (i := 3) hf3 (JA.norm (i := 20) hf20 (JA.norm (i := 21) hf21 (JA.norm (i := 22) hf22 (JA.norm (i := 26) hf26 (JA.norm (i := 29) hf29 (JA.norm (i := 33) hf33 (JA.norm (i := 36) hf36 ?_)))))))))
    refine JA.many [1, 4] (by kernel_rfl) (by simp) (all_cons ⟨_, #[true, true, true, true, false, false, true, true, true, true, true, false, false, false, false, false], rfl, (by kernel_rfl), ?_⟩ (all_one ⟨_, #[true, false, true, true, true, false, true, true, true, true, true, false, false, false, false, false], rfl, (by kernel_rfl), ?_⟩))
    ·skip
     refine JL.loadOwn 3 az_23 rfl rfl rfl .none rfl ?_
     refine JA.after hE hs1567 (.cons _ (.cons_cons _ (.cons _ (.cons _ (List.nil_sublist _))))) ?_
     exact nd1524_6 _ _ _ _ ⟨b1496, rfl, rfl, rfl, rfl, rfl, rfl, rfl, rfl, rfl, rfl, rfl, hs1567⟩
    ·skip
     refine JL.buildSlice (e := 3) (l := [.int .i64 y1394.High]) (by kernel_rfl) .none rfl ?_
     intro b1568
     refine JA.after hE hs1567 (.cons _ (.cons _ (.cons_cons _ (.cons _ (.cons _ (List.nil_sublist _)))))) ?_
     refine JA.perm (swapAt_perm 0 _) ?_
     exact nd1524_7 _ _ _ _ ⟨b1496, b1568, rfl, rfl, rfl, rfl, rfl, rfl, rfl, rfl, rfl, rfl, rfl, hs1567⟩
   intro nd1524_13
   refine JA.take 0 (listed' := #[true, false, false, false, false, false, false, false, false, false, false, false, false, false, false, false]) hQ rfl (by kernel_rfl) (by kernel_rfl) (by kernel_rfl) (by kernel_rfl) (by kernel_rfl) hE (HSub.refl _) (.cons_cons _ (.cons _ (.cons _ (List.nil_sublist _)))) ?_
   refine JL.fieldAddr fo_156_1 rfl .none rfl ?_
   refine JA.cont ?_
   refine JA.take 2 (listed' := #[true, false, true, false, false, false, false, false, false, false, false, false, false, false, false, false]) hQ rfl (by kernel_rfl) (by kernel_rfl) (by kernel_rfl) (by kernel_rfl) (by kernel_rfl) hE (HSub.refl _) (.cons_cons _ (.cons _ (.cons _ (List.nil_sublist _)))) ?_
   refine JL.fieldAddr fo_39_1 rfl .none rfl ?_
   refine JA.cont ?_
   refine JA.take 3 (listed' := #[true, false, true, true, false, false, false, false, false, false, false, false, false, false, false, false]) hQ rfl (by kernel_rfl) (by kernel_rfl) (by kernel_rfl) (by kernel_rfl) (by kernel_rfl) hE (HSub.refl _) (.cons_cons _ (.cons _ (.cons _ (List.nil_sublist _)))) ?_
   refine JL.loadOwn 0 az_3 rfl rfl rfl .none rfl ?_
   refine JA.cont ?_
   refine JA.take 6 (listed' := #[true, false, true, true, false, false, true, false, false, false, false, false, false, false, false, false]) hQ rfl (by kernel_rfl) (by kernel_rfl) (by kernel_rfl) (by kernel_rfl) (by kernel_rfl) hE (HSub.refl _) (.cons_cons _ (.cons _ (.cons _ (List.nil_sublist _)))) ?_
   refine JL.fieldAddr fo_156_1 rfl .none rfl ?_
   refine JA.cont ?_
   refine JA.take 8 (listed' := #[true, false, true, true, false, false, true, false, true, false, false, false, false, false, false, false]) hQ rfl (by kernel_rfl) (by kernel_rfl) (by kernel_rfl) (by kernel_rfl) (by kernel_rfl) hE (HSub.refl _) (.cons_cons _ (.cons _ (.cons _ (List.nil_sublist _)))) ?_
   refine JL.fieldAddr fo_39_0 rfl .none rfl ?_
   refine JA.cont ?_
   refine JA.take 9 (listed' := #[true, false, true, true, false, false, true, false, true, true, false, false, false, false, false, false]) hQ rfl (by kernel_rfl) (by kernel_rfl) (by kernel_rfl) (by kernel_rfl) (by kernel_rfl) hE (HSub.refl _) (.cons_cons _ (.cons _ (.cons _ (List.nil_sublist _)))) ?_
   refine JL.loadOwn 0 az_3 rfl rfl rfl .none rfl ?_
   refine JA.cont ?_
   refine JA.many [1, 4, 7, 10] (by kernel_rfl) (by simp) (all_cons ⟨_, #[true, true, true, true, false, false, true, false, true, true, false, false, false, false, false, false], rfl, (by kernel_rfl), ?_⟩ (all_cons ⟨_, #[true, false, true, true, true, false, true, false, true, true, false, false, false, false, false, false], rfl, (by kernel_rfl), ?_⟩ (all_cons ⟨_, #[true, false, true, true, false, false, true, true, true, true, false, false, false, false, false, false], rfl, (by kernel_rfl), ?_⟩ (all_one ⟨_, #[true, false, true, true, false, false, true, false, true, true, true, false, false, false, false, false], rfl, (by kernel_rfl), ?_⟩))))
   ·skip
    refine JL.loadOwn 2 az_23 rfl rfl rfl .none rfl ?_
    refine JA.after hE (HSub.refl _) (.cons_cons _ (.cons _ (.cons _ (List.nil_sublist _)))) ?_
    refine JA.many [4, 7, 10] (by kernel_rfl) (by simp) (all_cons ⟨_, #[true, true, true, true, true, false, true, false, true, true, false, false, false, false, false, false], rfl, (by kernel_rfl), ?_⟩ (all_cons ⟨_, #[true, true, true, true, false, false, true, true, true, true, false, false, false, false, false, false], rfl, (by kernel_rfl), ?_⟩ (all_one ⟨_, #[true, true, true, true, false, false, true, false, true, true, true, false, false, false, false, false], rfl, (by kernel_rfl), ?_⟩)))
    ·skip
     refine JL.buildSlice (e := 3) (l := [.int .i64 y1394.High]) (by kernel_rfl) .none rfl ?_
     intro b1569
     refine JA.after hE (HSub.refl _) (.cons _ (.cons_cons _ (.cons _ (.cons _ (List.nil_sublist _))))) ?_
     exact nd1524_8 _ _ _ _ ⟨b1569, rfl, rfl, rfl, rfl, rfl, rfl, rfl, rfl, rfl, rfl, rfl, (HSub.refl _)⟩
    ·skip
     refine JL.loadOwn 1 az_23 rfl rfl rfl .none rfl ?_
     refine JA.after hE (HSub.refl _) (.cons_cons _ (.cons _ (.cons _ (List.nil_sublist _)))) ?_
     exact nd1524_9 _ _ _ _ ⟨rfl, rfl, rfl, rfl, rfl, rfl, rfl, rfl, rfl, rfl, rfl, (HSub.refl _)⟩
    ·skip
     refine JL.buildSlice (e := 3) (l := [.int .i64 y1394.Low]) (by kernel_rfl) .none rfl ?_
     intro b1570
     refine JA.after hE (HSub.refl _) (.cons _ (.cons_cons _ (.cons _ (.cons _ (List.nil_sublist _))))) ?_
     exact nd1524_10 _ _ _ _ ⟨b1570, rfl, rfl, rfl, rfl, rfl, rfl, rfl, rfl, rfl, rfl, rfl, (HSub.refl _)⟩
   ·skip
    refine JL.buildSlice (e := 3) (l := [.int .i64 y1394.High]) (by kernel_rfl) .none rfl ?_
    intro b1571
    refine JA.after hE (HSub.refl _) (.cons _ (.cons_cons _ (.cons _ (.cons _ (List.nil_sublist _))))) ?_
    refine JA.many [1, 7, 10] (by kernel_rfl) (by simp) (all_cons ⟨_, #[true, true, true, true, true, false, true, false, true, true, false, false, false, false, false, false], rfl, (by kernel_rfl), ?_⟩ (all_cons ⟨_, #[true, false, true, true, true, false, true, true, true, true, false, false, false, false, false, false], rfl, (by kernel_rfl), ?_⟩ (all_one ⟨_, #[true, false, true, true, true, false, true, false, true, true, true, false, false, false, false, false], rfl, (by kernel_rfl), ?_⟩)))
    ·skip
     refine JL.loadOwn 3 az_23 rfl rfl rfl .none rfl ?_
     refine JA.after hE (HSub.refl _) (.cons _ (.cons_cons _ (.cons _ (.cons _ (List.nil_sublist _))))) ?_
     exact nd1524_8 _ _ _ _ ⟨b1571, rfl, rfl, rfl, rfl, rfl, rfl, rfl, rfl, rfl, rfl, rfl, (HSub.refl _)⟩
    ·skip
     refine JL.loadOwn 2 az_23 rfl rfl rfl .none rfl ?_
     refine JA.after hE (HSub.refl _) (.cons _ (.cons_cons _ (.cons _ (.cons _ (List.nil_sublist _))))) ?_
     exact nd1524_11 _ _ _ _ ⟨b1571, rfl, rfl, rfl, rfl, rfl, rfl, rfl, rfl, rfl, rfl, rfl, (HSub.refl _)⟩
    ·skip
     refine JL.buildSlice (e := 3) (l := [.int .i64 y1394.Low]) (by kernel_rfl) .none rfl ?_
     intro b1572
     refine JA.after hE (HSub.refl _) (.cons _ (.cons _ (.cons_cons _ (.cons _ (.cons _ (List.nil_sublist _)))))) ?_
     exact nd1524_12 _ _ _ _ ⟨b1572, b1571, rfl, rfl, rfl, rfl, rfl, rfl, rfl, rfl, rfl, rfl, rfl, (HSub.refl _)⟩
   ·skip
    refine JL.loadOwn 1 az_23 rfl rfl rfl .none rfl ?_
    refine JA.after hE (HSub.refl _) (.cons_cons _ (.cons _ (.cons _ (List.nil_sublist _)))) ?_
    refine JA.many [1, 4, 10] (by kernel_rfl) (by simp) (all_cons ⟨_, #[true, true, true, true, false, false, true, true, true, true, false, false, false, false, false, false], rfl, (by kernel_rfl), ?_⟩ (all_cons ⟨_, #[true, false, true, true, true, false, true, true, true, true, false, false, false, false, false, false], rfl, (by kernel_rfl), ?_⟩ (all_one ⟨_, #[true, false, true, true, false, false, true, true, true, true, true, false, false, false, false, false], rfl, (by kernel_rfl), ?_⟩)))
    ·skip
     refine JL.loadOwn 2 az_23 rfl rfl rfl .none rfl ?_
     refine JA.after hE (HSub.refl _) (.cons_cons _ (.cons _ (.cons _ (List.nil_sublist _)))) ?_
     exact nd1524_9 _ _ _ _ ⟨rfl, rfl, rfl, rfl, rfl, rfl, rfl, rfl, rfl, rfl, rfl, (HSub.refl _)⟩
    ·skip
     refine JL.buildSlice (e := 3) (l := [.int .i64 y1394.High]) (by kernel_rfl) .none rfl ?_
     intro b1573
     refine JA.after hE (HSub.refl _) (.cons _ (.cons_cons _ (.cons _ (.cons _ (List.nil_sublist _))))) ?_
     exact nd1524_11 _ _ _ _ ⟨b1573, rfl, rfl, rfl, rfl, rfl, rfl, rfl, rfl, rfl, rfl, rfl, (HSub.refl _)⟩
    ·skip
     refine JL.buildSlice (e := 3) (l := [.int .i64 y1394.Low]) (by kernel_rfl) .none rfl ?_
     intro b1574
     refine JA.after hE (HSub.refl _) (.cons _ (.cons_cons _ (.cons _ (.cons _ (List.nil_sublist _))))) ?_
     exact nd1524_13 _ _ _ _ ⟨b1574, rfl, rfl, rfl, rfl, rfl, rfl, rfl, rfl, rfl, rfl, rfl, (HSub.refl _)⟩
   ·skip
    refine JL.buildSlice (e := 3) (l := [.int .i64 y1394.Low]) (by kernel_rfl) .none rfl ?_
    intro b1575
    refine JA.after hE (HSub.refl _) (.cons _ (.cons_cons _ (.cons _ (.cons _ (List.nil_sublist _))))) ?_
    refine JA.many [1, 4, 7] (by kernel_rfl) (by simp) (all_cons ⟨_, #[true, true, true, true, false, false, true, false, true, true, true, false, false, false, false, false], rfl, (by kernel_rfl), ?_⟩ (all_cons ⟨_, #[true, false, true, true, true, false, true, false, true, true, true, false, false, false, false, false], rfl, (by kernel_rfl), ?_⟩ (all_one ⟨_, #[true, false, true, true, false, false, true, true, true, true, true, false, false, false, false, false], rfl, (by kernel_rfl), ?_⟩)))
    ·skip
     refine JL.loadOwn 3 az_23 rfl rfl rfl .none rfl ?_
     refine JA.after hE (HSub.refl _) (.cons _ (.cons_cons _ (.cons _ (.cons _ (List.nil_sublist _))))) ?_
     exact nd1524_10 _ _ _ _ ⟨b1575, rfl, rfl, rfl, rfl, rfl, rfl, rfl, rfl, rfl, rfl, rfl, (HSub.refl _)⟩
    ·skip
     refine JL.buildSlice (e := 3) (l := [.int .i64 y1394.High]) (by kernel_rfl) .none rfl ?_
     intro b1576
     refine JA.after hE (HSub.refl _) (.cons _ (.cons _ (.cons_cons _ (.cons _ (.cons _ (List.nil_sublist _)))))) ?_
     refine JA.perm (swapAt_perm 0 _) ?_
     exact nd1524_12 _ _ _ _ ⟨b1575, b1576, rfl, rfl, rfl, rfl, rfl, rfl, rfl, rfl, rfl, rfl, rfl, (HSub.refl _)⟩
    ·skip
     refine JL.loadOwn 2 az_23 rfl rfl rfl .none rfl ?_
     refine JA.after hE (HSub.refl _) (.cons _ (.cons_cons _ (.cons _ (.cons _ (List.nil_sublist _))))) ?_
     exact nd1524_13 _ _ _ _ ⟨b1575, rfl, rfl, rfl, rfl, rfl, rfl, rfl, rfl, rfl, rfl, rfl, (HSub.refl _)⟩
  ·refine JC.cond_f (b := decide (x_1387 < (d.Ribs.length : Int))) rfl hc1393 ?_
   refine JC.exit (JQ.exit_then (JQ.exit_then (JQ.exit_block ?_)))
   obtain rfl := Option.some.inj hF
   have ehr1391 := hr1391 _ rfl
   subst ehr1391
   exact JQ.join (out_1388, out_1389) ⟨vout_1388, xsout_1388, vout_1389, xsout_1389, rfl, rfl, rfl, rfl, hout_1388, hout_1389, hs1390, rfl⟩
 ·rintro ⟨out_1007, out_1008⟩ H1009 f bs gs ⟨vout_1007, xsout_1007, vout_1008, xsout_1008, hf2, hf3, rfl, rfl, hout_1007, hout_1008, hs1009, rfl⟩
  have hF := hKr1010
  try dsimp only at hF
  refine (JQ.norm (i := 2) hf2 (JQ.norm (i := 3) hf3 ?_))
  refine JQ.go (JC.seq (JC.mixed 4 4 #[false, false, false, false] [(b3, .cells [.int .i64 y4.High, vout_1008, (.slice a15 d.Shares.length c16)].toArray 156), (b2, .cells [.int .i64 y4.Low, vout_1007, (.slice a15 d.Shares.length c16)].toArray 156)] (by rfl) mo_ (by kernel_rfl) (by kernel_rfl) ?_))
  intro hQ hE
  refine JA.take 0 (listed' := #[true, false, false, false]) hQ rfl (by kernel_rfl) (by kernel_rfl) (by kernel_rfl) (by kernel_rfl) (by kernel_rfl) hE (HSub.refl _) (.cons_cons _ (.cons_cons _ (List.nil_sublist _))) ?_
  refine JL.loadOwn 1 az_156 rfl rfl rfl .none rfl ?_
  refine JA.cont ?_
  refine JA.take 1 (listed' := #[true, true, false, false]) hQ rfl (by kernel_rfl) (by kernel_rfl) (by kernel_rfl) (by kernel_rfl) (by kernel_rfl) hE (HSub.refl _) (.cons_cons _ (.cons_cons _ (List.nil_sublist _))) ?_
  refine JL.loadOwn 0 az_156 rfl rfl rfl .none rfl ?_
  refine JA.cont ?_
  refine JA.many [2] (by kernel_rfl) (by simp) (all_one ⟨_, #[true, true, true, false], rfl, (by kernel_rfl), ?_⟩)
  refine JL.oneG 0 rfl (fun ho1584 => ?_)
  refine JL.storeOwn 1 (cs := [.int .i64 y4.Low, vout_1007, (.slice a15 d.Shares.length c16)]) az_156 rfl rfl rfl (one_cons rfl (one_cons ho1584.1 (one_cons (SL.one (SL.mono RInt.mono hs1009 hd_8)) one_nil))) rfl rfl .none ?_
  refine JA.after hE (HSub.refl _) (.cons_cons _ (.cons_cons _ (List.nil_sublist _))) ?_
  refine JA.many [3] (by kernel_rfl) (by simp) (all_one ⟨_, #[true, true, true, true], rfl, (by kernel_rfl), ?_⟩)
  refine JL.oneG 1 rfl (fun ho1585 => ?_)
  refine JL.storeOwn 0 (cs := [.int .i64 y4.High, vout_1008, (.slice a15 d.Shares.length c16)]) az_156 rfl rfl rfl (one_cons rfl (one_cons ho1585.1 (one_cons (SL.one (SL.mono RInt.mono hs1009 hd_8)) one_nil))) rfl rfl .none ?_
  refine JA.after hE (HSub.refl _) (.cons_cons _ (.cons_cons _ (List.nil_sublist _))) ?_
  refine JA.done hQ (by kernel_rfl) ?_
  refine JQ.go (JC.ret (JQ.freezeG 0 (R := RInt) rfl RInt.mono hout_1007 rfl ?_))
  intro H1586 hs1586 hg1587
  refine JQ.freezeG 0 (R := RInt) rfl RInt.mono (CH.mono RInt.mono hs1586 hout_1008) rfl ?_
  intro H1588 hs1588 hg1589
  obtain rfl := Option.some.inj hF
  exact JQ.outH rfl (.cell 1 az_156 rfl rfl rfl (.cell 0 az_156 rfl rfl rfl .nil)) ⟨vout_1007, (.slice a15 d.Shares.length c16), vout_1008, (.slice a15 d.Shares.length c16), rfl, (SL.mono RInt.mono hs1588 hg1587), (SL.mono RInt.mono (HSub.trans hs1009 (HSub.trans hs1586 hs1588)) hd_8), hg1589, (SL.mono RInt.mono (HSub.trans hs1009 (HSub.trans hs1586 hs1588)) hd_8)⟩
end Go.Proofs.Yteihdclpiekmaaa
end
