/-
  A part of the proof of FiFiner: the texts FiGenK2, FiGenK3.
-/
import Derived.Test.YteihdclpiekmaaaJFiFiner3
section
set_option maxRecDepth 100000
set_option maxHeartbeats 40000000
namespace Go.Proofs.Yteihdclpiekmaaa
open Go Go.RowKit Go.Dec
set_option linter.unusedVariables false
-- 40 ferrule/ferruletop.isRun
def F_top_isRun (n : Nat) (r : Run) : Option Bool :=
 (F_law13_Far n r).bind fun y2 => (if (!y2) = true then ((F_ref13_Check n r).bind fun y7 => some (y7 == 0)) else (some false) : Option Bool).bind fun p4 => some p4
theorem c_top_isRun (n : Nat) (H : Hp) (r : Run) (r_v0 : Value) (hr_0 : SL H 7 R_Section r_v0 r.Canopy.Frame.Sections) (r_v7 : Value) (hr_7 : SL H 2 R_Span r_v7 r.Canopy.Ribs) (r_v8 : Value) (hr_8 : SL H 1 RInt r_v8 r.Canopy.Shares) (r_v9 : Value) (hr_9 : SL H 3 R_Blow r_v9 r.Blows) (r_v10 : Value) (hr_10 : SL H 2 R_Meter r_v10 r.Meters) (y : Bool) (hF : F_top_isRun n r = some y) : SC Try.prog 40 [.agg [r_v0, .int .i64 r.Canopy.Frame.Low, .int .i64 r.Canopy.Frame.High, .int .i64 r.Canopy.Frame.Ease.Num, .int .i64 r.Canopy.Frame.Ease.Den, .int .i64 r.Canopy.Frame.Rod, .int .i64 r.Canopy.Frame.Case, r_v7, r_v8, r_v9, r_v10, .int .i64 r.Wrong].toArray] (.bool y) H := by
 rw [F_top_isRun] at hF
 refine SC.of (N := 11) Try.func40 rfl rfl rfl fun w => ?_
 refine JC.seq (JC.region (by rfl) ?_)
 intro hQ
 refine JL.box (cs := [r_v0, .int .i64 r.Canopy.Frame.Low, .int .i64 r.Canopy.Frame.High, .int .i64 r.Canopy.Frame.Ease.Num, .int .i64 r.Canopy.Frame.Ease.Den, .int .i64 r.Canopy.Frame.Rod, .int .i64 r.Canopy.Frame.Case, r_v7, r_v8, r_v9, r_v10, .int .i64 r.Wrong]) rfl .none rfl ?_
 intro b1
 refine JL.assign .none rfl ?_
 refine JL.done hQ (JQ.go (JC.seq (JC.region (by rfl) ?_)))
 intro hQ
 refine JL.loadOwn 0 az_90 rfl rfl rfl .none rfl ?_
 obtain ⟨y2, hy2, hF⟩ := bind_some hF
 refine JL.callS (c_law13_Far n H r r_v0 hr_0 r_v7 hr_7 r_v8 hr_8 r_v9 hr_9 r_v10 hr_10 y2 hy2) rfl en_92 .none rfl ?_
 refine JL.not rfl .none rfl ?_
 refine JL.move .none rfl ?_
 obtain ⟨p4, hp4, hF⟩ := bind_some hF
 refine JL.cut 4 (fun f => f 10 = .bool p4) ?_ ?_
 ·intro hJ5
  rcases ite_some hp4 with ⟨hc6, hF⟩ | ⟨hc6, hF⟩
  ·skip
   refine JL.loadOwn 0 az_90 rfl rfl rfl (.some rfl rfl rfl hc6) rfl ?_
   obtain ⟨y7, hy7, hF⟩ := bind_some hF
   refine JL.callS (c_ref13_Check n H r r_v0 hr_0 r_v7 hr_7 r_v8 hr_8 r_v9 hr_9 r_v10 hr_10 y7 hy7) rfl en_93 (.some rfl rfl rfl hc6) rfl ?_
   refine JL.bin rfl rfl rfl (.some rfl rfl rfl hc6) rfl ?_
   refine JL.pick_t (b := (!y2)) rfl hc6 .none rfl ?_
   obtain rfl := Option.some.inj hF
   exact hJ5 _ (rfl)
  ·skip
   refine JL.skip (.bool rfl rfl rfl hc6) rfl ?_
   refine JL.skip (.bool rfl rfl rfl hc6) rfl ?_
   refine JL.skip (.bool rfl rfl rfl hc6) rfl ?_
   refine JL.pick_f (b := (!y2)) rfl hc6 .none rfl ?_
   obtain rfl := Option.some.inj hF
   exact hJ5 _ (rfl)
 ·rintro f hf10
  refine (JL.norm (i := 10) hf10 ?_)
  refine JL.assign .none rfl ?_
  refine JL.done hQ (JQ.go (JC.ret ?_))
  obtain rfl := Option.some.inj hF
  exact JQ.outS rfl (.tmp .nil) rfl
-- 182 ferrule/ferruleref13.cases
def F_ref13_cases_s1 (n : Nat) (rec : Run → List Int → Option (List (List Int))) (r : Run) (first : List Int) (y10 : Blow) : Int × List (List Int) → Option ((Int × List (List Int)) ⊕ (List (List Int)))
 | (n_443, out_444) => if decide (n_443 ≤ y10.Force.High) = true then ((lim (([] : List Int) ++ first)).bind fun l451 => (lim (l451 ++ [n_443])).bind fun l456 => (rec r l456).bind fun y462 => (lim (out_444 ++ y462)).bind fun l464 => some (Sum.inl ((w64 (n_443 + 1)), l464))) else (some (Sum.inr out_444))
def F_ref13_cases : Nat → Run → List Int → Option (List (List Int))
 | 0, _, _ => none
 | n + 1, r, first => (fun rec => if ((first.length : Int) == (r.Blows.length : Int)) = true then (some [first]) else ((geti r.Blows (first.length : Int)).bind fun y10 => (loopO n (F_ref13_cases_s1 n rec r first y10) (y10.Force.Low, ([] : List (List Int)))).bind fun out_300 => some out_300)) (F_ref13_cases n)
theorem c_ref13_cases (n : Nat) : ∀ (H : Hp) (r : Run) (r_v0 : Value) (hr_0 : SL H 7 R_Section r_v0 r.Canopy.Frame.Sections) (r_v7 : Value) (hr_7 : SL H 2 R_Span r_v7 r.Canopy.Ribs) (r_v8 : Value) (hr_8 : SL H 1 RInt r_v8 r.Canopy.Shares) (r_v9 : Value) (hr_9 : SL H 3 R_Blow r_v9 r.Blows) (r_v10 : Value) (hr_10 : SL H 2 R_Meter r_v10 r.Meters) (first : List Int) (first_v0 : Value) (hfirst_0 : SL H 1 RInt first_v0 first) (y : (List (List Int))) (hF : F_ref13_cases n r first = some y), HC Try.prog 182 [.agg [r_v0, .int .i64 r.Canopy.Frame.Low, .int .i64 r.Canopy.Frame.High, .int .i64 r.Canopy.Frame.Ease.Num, .int .i64 r.Canopy.Frame.Ease.Den, .int .i64 r.Canopy.Frame.Rod, .int .i64 r.Canopy.Frame.Case, r_v7, r_v8, r_v9, r_v10, .int .i64 r.Wrong].toArray, first_v0] H (fun H' ra_v0 => SL H' 1 (RSl 1 RInt) ra_v0 y) := by
 induction n with
 | zero => intro H r r_v0 hr_0 r_v7 hr_7 r_v8 hr_8 r_v9 hr_9 r_v10 hr_10 first first_v0 hfirst_0 y hF; simp [F_ref13_cases] at hF
 | succ n ih =>
 intro H r r_v0 hr_0 r_v7 hr_7 r_v8 hr_8 r_v9 hr_9 r_v10 hr_10 first first_v0 hfirst_0 y hF
 rw [F_ref13_cases] at hF
 dsimp only at hF
 refine HC.of (N := 42) Try.func182 rfl rfl rfl fun w => ?_
 refine JC.seq (JC.region (by rfl) ?_)
 intro hQ
 refine JL.box (cs := [r_v0, .int .i64 r.Canopy.Frame.Low, .int .i64 r.Canopy.Frame.High, .int .i64 r.Canopy.Frame.Ease.Num, .int .i64 r.Canopy.Frame.Ease.Den, .int .i64 r.Canopy.Frame.Rod, .int .i64 r.Canopy.Frame.Case, r_v7, r_v8, r_v9, r_v10, .int .i64 r.Wrong]) rfl .none rfl ?_
 intro b1
 refine JL.assign .none rfl ?_
 refine JL.done hQ (JQ.go (JC.seq (JC.seq (JC.region (by rfl) ?_))))
 intro hQ
 refine JL.move .none rfl ?_
 refine JL.lenSL (R := RInt) ul_23 hfirst_0 .none rfl ?_
 refine JL.fieldAddr fo_90_1 rfl .none rfl ?_
 refine JL.loadOwn 0 az_87 rfl rfl rfl .none rfl ?_
 refine JL.lenSL (R := R_Blow) ul_87 hr_9 .none rfl ?_
 refine JL.bin rfl rfl rfl .none rfl ?_
 refine JL.done hQ (JQ.go ?_)
 rcases ite_some hF with ⟨hc2, hF⟩ | ⟨hc2, hF⟩
 ·refine JC.cond_t (b := ((first.length : Int) == (r.Blows.length : Int))) rfl hc2 ?_
  refine JC.seq (JC.region (by rfl) ?_)
  intro hQ
  refine JL.move .none rfl ?_
  obtain ⟨a3, c4, rfl, hh5⟩ := hfirst_0
  have hfirst_0 : SL H 1 RInt (.slice a3 first.length c4) first := ⟨a3, c4, rfl, hh5⟩
  refine JL.buildSlice (e := 23) (l := [(.slice a3 first.length c4)]) (by kernel_rfl) .none rfl ?_
  intro b6
  refine JL.assign .none rfl ?_
  refine JL.done hQ (JQ.go (JC.ret (JQ.ret_then (JQ.freezeC 0 (l := [(.slice a3 first.length c4)]) rfl ?_))))
  intro H7 hs7 hc8
  have hg9 : SL H7 1 (RSl 1 RInt) (.slice (some ⟨b6, 0, none⟩) 1 1) [first] := CH.sl (l := [first]) (CH.cons (cs := [(.slice a3 first.length c4)]) rfl ⟨_, rfl, (SL.mono RInt.mono hs7 hfirst_0)⟩ CH.nil) hc8 ⟨by simp, by simp⟩
  obtain rfl := Option.some.inj hF
  exact JQ.outH rfl (.tmp .nil) hg9
 ·refine JC.cond_f (b := ((first.length : Int) == (r.Blows.length : Int))) rfl hc2 ?_
  refine JC.skip (JQ.go (JC.seq (JC.region (by rfl) ?_)))
  intro hQ
  refine JL.assign .none rfl ?_
  refine JL.done hQ (JQ.go (JC.seq (JC.region (by rfl) ?_)))
  intro hQ
  refine JL.fieldAddr fo_90_1 rfl .none rfl ?_
  refine JL.loadOwn 0 az_87 rfl rfl rfl .none rfl ?_
  refine JL.move .none rfl ?_
  refine JL.lenSL (R := RInt) ul_23 hfirst_0 .none rfl ?_
  obtain ⟨y10, hy10, hF⟩ := bind_some hF
  refine JL.indexSL (R := R_Blow) sl_87 hr_9 rfl hy10 .none rfl ?_
  rintro b11 o12 cs13 hc14 - rfl
  refine JL.fieldAddr fo_98_1 rfl .none rfl ?_
  refine JL.loadH 1 az_39 rfl hc14 rfl .none rfl ?_
  refine JL.alloc ze_39 .none rfl ?_
  intro b15
  refine JL.storeOwn 0 (cs := [.int .i64 y10.Force.Low, .int .i64 y10.Force.High]) az_39 rfl rfl rfl (one_cons rfl (one_cons rfl one_nil)) rfl rfl .none ?_
  refine JL.done hQ (JQ.go (JC.fresh (fun f => f 1 = first_v0 ∧ f 2 = .pointer (some ⟨b1, 0, none⟩) ∧ f 4 = .slice none 0 0 ∧ f 5 = .slice none 0 0 ∧ f 6 = .pointer (some ⟨b15, 0, none⟩)) ⟨rfl, rfl, rfl, rfl, rfl⟩ ?_))
  rintro f ⟨hf1, hf2, hf4, hf5, hf6⟩
  refine (JC.norm (i := 1) hf1 (JC.norm (i := 2) hf2 (JC.norm (i := 4) hf4 (JC.norm (i := 5) hf5 (JC.norm (i := 6) hf6 ?_)))))
  refine JC.seq (JC.seq (JC.region (by rfl) ?_))
  intro hQ
  refine JL.fieldAddr fo_39_0 rfl .none rfl ?_
  refine JL.loadOwn 0 az_3 rfl rfl rfl .none rfl ?_
  refine JL.assign .none rfl ?_
  refine JL.done hQ (JQ.go (JC.newNil (e := 23) (sz := 1) ?_))
  obtain ⟨r302, hlr302, hKr302⟩ := bind_some hF
  refine JC.join (fun (out_300 : List (List Int)) H301 f bs gs => ∃ (vout_300 : Value) (xsout_300 : List Value), f 5 = vout_300 ∧ bs = [] ∧ gs = [⟨vout_300, 23, 1, out_300.length, xsout_300⟩] ∧ CH H301 1 (RSl 1 RInt) xsout_300 out_300 ∧ HSub H H301 ∧ out_300 = r302) ?_ ?_
  ·skip
   refine JC.block (JC.loop hlr302 (fun (x : Int × List (List Int)) H445 f bs gs => match x with | (n_443, out_444) => ∃ (vout_444 : Value) (xsout_444 : List Value), f 1 = first_v0 ∧ f 2 = .pointer (some ⟨b1, 0, none⟩) ∧ f 5 = vout_444 ∧ f 6 = .pointer (some ⟨b15, 0, none⟩) ∧ f 7 = .int .i64 n_443 ∧ bs = [(b15, .cells [.int .i64 y10.Force.Low, .int .i64 y10.Force.High].toArray 39), (b1, .cells [r_v0, .int .i64 r.Canopy.Frame.Low, .int .i64 r.Canopy.Frame.High, .int .i64 r.Canopy.Frame.Ease.Num, .int .i64 r.Canopy.Frame.Ease.Den, .int .i64 r.Canopy.Frame.Rod, .int .i64 r.Canopy.Frame.Case, r_v7, r_v8, r_v9, r_v10, .int .i64 r.Wrong].toArray 90)] ∧ gs = [⟨vout_444, 23, 1, out_444.length, xsout_444⟩] ∧ CH H445 1 (RSl 1 RInt) xsout_444 out_444 ∧ HSub H H445) ⟨(.slice none 0 0), [], rfl, rfl, rfl, rfl, rfl, rfl, rfl, CH.nil, (HSub.refl _)⟩ ?_)
   rintro ⟨n_443, out_444⟩ x447 H445 f bs gs ⟨vout_444, xsout_444, hf1, hf2, hf5, hf6, hf7, rfl, rfl, hout_444, hs445⟩ hF hr446
   rw [F_ref13_cases_s1] at hF
   refine (JC.norm (i := 1) hf1 (JC.norm (i := 2) hf2 (JC.norm (i := 5) hf5 (JC.norm (i := 6) hf6 (JC.norm (i := 7) hf7 ?_)))))
   refine JC.seq (JC.seq (JC.region (by rfl) ?_))
   intro hQ
   refine JL.move .none rfl ?_
   refine JL.fieldAddr fo_39_1 rfl .none rfl ?_
   refine JL.loadOwn 0 az_3 rfl rfl rfl .none rfl ?_
   refine JL.bin rfl rfl rfl .none rfl ?_
   refine JL.done hQ (JQ.go ?_)
   rcases ite_some hF with ⟨hc448, hF⟩ | ⟨hc448, hF⟩
   ·refine JC.cond_t (b := decide (n_443 ≤ y10.Force.High)) rfl hc448 ?_
    refine JC.skip (JQ.go (JC.seq (JC.block ?_)))
    obtain ⟨l451, hl451, hF⟩ := bind_some hF
    obtain ⟨l456, hl456, hF⟩ := bind_some hF
    obtain ⟨y462, hy462, hF⟩ := bind_some hF
    obtain ⟨l464, hl464, hF⟩ := bind_some hF
    refine JC.mixed 11 11 #[false, false, false, false, false, false, false, false, false, false, false] [(b15, .cells [.int .i64 y10.Force.Low, .int .i64 y10.Force.High].toArray 39), (b1, .cells [r_v0, .int .i64 r.Canopy.Frame.Low, .int .i64 r.Canopy.Frame.High, .int .i64 r.Canopy.Frame.Ease.Num, .int .i64 r.Canopy.Frame.Ease.Den, .int .i64 r.Canopy.Frame.Rod, .int .i64 r.Canopy.Frame.Case, r_v7, r_v8, r_v9, r_v10, .int .i64 r.Wrong].toArray 90)] (by rfl) mo_ (by kernel_rfl) (by kernel_rfl) ?_
    intro hQ hE
    refine JA.cut 4 #[true, true, true, true, true, true, true, false, false, false, false] (fun H490 f bs gs => ∃ (b477 : Nat) (v471 : Value) (xs472 : List Value), f 1 = first_v0 ∧ f 2 = .pointer (some ⟨b1, 0, none⟩) ∧ f 5 = vout_444 ∧ f 6 = .pointer (some ⟨b15, 0, none⟩) ∧ f 7 = .int .i64 n_443 ∧ f 31 = vout_444 ∧ f 32 = .agg [r_v0, .int .i64 r.Canopy.Frame.Low, .int .i64 r.Canopy.Frame.High, .int .i64 r.Canopy.Frame.Ease.Num, .int .i64 r.Canopy.Frame.Ease.Den, .int .i64 r.Canopy.Frame.Rod, .int .i64 r.Canopy.Frame.Case, r_v7, r_v8, r_v9, r_v10, .int .i64 r.Wrong].toArray ∧ f 35 = v471 ∧ f 37 = .slice (some ⟨b477, 0, none⟩) 1 1 ∧ bs = [(b477, .cells [.int .i64 n_443].toArray 3), (b15, .cells [.int .i64 y10.Force.Low, .int .i64 y10.Force.High].toArray 39), (b1, .cells [r_v0, .int .i64 r.Canopy.Frame.Low, .int .i64 r.Canopy.Frame.High, .int .i64 r.Canopy.Frame.Ease.Num, .int .i64 r.Canopy.Frame.Ease.Den, .int .i64 r.Canopy.Frame.Rod, .int .i64 r.Canopy.Frame.Case, r_v7, r_v8, r_v9, r_v10, .int .i64 r.Wrong].toArray 90)] ∧ gs = [⟨v471, 3, 1, l451.length, xs472⟩, ⟨vout_444, 23, 1, out_444.length, xsout_444⟩] ∧ CH H490 1 RInt xs472 l451 ∧ HSub H445 H490) ?_ ?_
    ·rintro H490 f bs gs ⟨b477, v471, xs472, hf1, hf2, hf5, hf6, hf7, hf31, hf32, hf35, hf37, rfl, rfl, hm491, hs490⟩
     refine (JA.norm (i := 1) hf1 (JA.norm (i := 2) hf2 (JA.norm (i := 5) hf5 (JA.norm (i := 6) hf6 (JA.norm (i := 7) hf7 (JA.norm (i := 31) hf31 (JA.norm (i := 32) hf32 (JA.norm (i := 35) hf35 (JA.norm (i := 37) hf37 ?_)))))))))
     refine JA.many [7] (by kernel_rfl) (by simp) (all_one ⟨_, #[true, true, true, true, true, true, true, true, false, false, false], rfl, (by kernel_rfl), ?_⟩)
     refine JL.appO (R := RInt) 0 0 (l := l451) (m := [n_443]) ap_23 rfl ⟨rfl, rfl⟩ rfl hm491 rfl rfl rfl (CH.cons (cs := [.int .i64 n_443]) rfl rfl CH.nil) rfl (one_cons rfl one_nil) hl456 .none rfl ?_
     intro v492 xs493 hch494
     refine JA.after hE hs490 (.cons _ (.cons_cons _ (.cons_cons _ (List.nil_sublist _)))) ?_
     refine JA.many [8] (by kernel_rfl) (by simp) (all_one ⟨_, #[true, true, true, true, true, true, true, true, true, false, false], rfl, (by kernel_rfl), ?_⟩)
     refine JL.freezeG 0 (R := RInt) rfl RInt.mono hch494 rfl ?_
     intro H495 hs495 hg496
     refine JL.callH (ih H495 r r_v0 (SL.mono R_Section_mono (HSub.trans hs445 (HSub.trans hs490 hs495)) hr_0) r_v7 (SL.mono R_Span_mono (HSub.trans hs445 (HSub.trans hs490 hs495)) hr_7) r_v8 (SL.mono RInt.mono (HSub.trans hs445 (HSub.trans hs490 hs495)) hr_8) r_v9 (SL.mono R_Blow_mono (HSub.trans hs445 (HSub.trans hs490 hs495)) hr_9) r_v10 (SL.mono R_Meter_mono (HSub.trans hs445 (HSub.trans hs490 hs495)) hr_10) l456 v492 hg496 y462 hy462) rfl en_182 .none rfl ?_
     intro H497 y462a_v0 hs497 hy462a_0
     refine JA.after hE (HSub.trans hs490 (HSub.trans hs495 hs497)) (.cons _ (.cons_cons _ (.cons_cons _ (List.nil_sublist _)))) ?_
     refine JA.many [9] (by kernel_rfl) (by simp) (all_one ⟨_, #[true, true, true, true, true, true, true, true, true, true, false], rfl, (by kernel_rfl), ?_⟩)
     refine JL.appD (R := (RSl 1 RInt)) 0 (l := out_444) (m := y462) ap_115 rfl ⟨rfl, rfl⟩ rfl (CH.mono (RSl.mono RInt.mono) (HSub.trans hs490 (HSub.trans hs495 hs497)) hout_444) rfl hy462a_0 (RSl.one _) hl464 .none rfl ?_
     intro v498 xs499 hch500
     refine JA.after hE (HSub.trans hs490 (HSub.trans hs495 hs497)) (.cons _ (.cons_cons _ (.cons_cons _ (List.nil_sublist _)))) ?_
     refine JA.take 10 (listed' := #[true, true, true, true, true, true, true, true, true, true, true]) hQ rfl (by kernel_rfl) (by kernel_rfl) (by kernel_rfl) (by kernel_rfl) (by kernel_rfl) hE (HSub.trans hs490 (HSub.trans hs495 hs497)) (.cons _ (.cons_cons _ (.cons_cons _ (List.nil_sublist _)))) ?_
     refine JL.assign .none rfl ?_
     refine JA.cont ?_
     refine JA.done hQ (by kernel_rfl) ?_
     refine JQ.normal_block (JQ.go (JC.region (by rfl) ?_))
     intro hQ
     refine JL.move .none rfl ?_
     refine JL.bin rfl rfl rfl .none rfl ?_
     refine JL.assign .none rfl ?_
     refine JL.done hQ ?_
     obtain rfl := Option.some.inj hF
     refine JQ.mask [false, true, true] [true] ?_
     exact JQ.next rfl ⟨v498, xs499, rfl, rfl, rfl, rfl, rfl, rfl, rfl, hch500, (HSub.trans hs445 (HSub.trans hs490 (HSub.trans hs495 hs497)))⟩
    intro nd489_0
    refine JA.cut 5 #[true, true, true, true, false, true, true, false, false, false, false] (fun H501 f bs gs => ∃ (b474 : Nat) (v468 : Value), f 1 = first_v0 ∧ f 2 = .pointer (some ⟨b1, 0, none⟩) ∧ f 5 = vout_444 ∧ f 6 = .pointer (some ⟨b15, 0, none⟩) ∧ f 7 = .int .i64 n_443 ∧ f 31 = vout_444 ∧ f 32 = .agg [r_v0, .int .i64 r.Canopy.Frame.Low, .int .i64 r.Canopy.Frame.High, .int .i64 r.Canopy.Frame.Ease.Num, .int .i64 r.Canopy.Frame.Ease.Den, .int .i64 r.Canopy.Frame.Rod, .int .i64 r.Canopy.Frame.Case, r_v7, r_v8, r_v9, r_v10, .int .i64 r.Wrong].toArray ∧ f 33 = v468 ∧ f 34 = first_v0 ∧ f 37 = .slice (some ⟨b474, 0, none⟩) 1 1 ∧ bs = [(b474, .cells [.int .i64 n_443].toArray 3), (b15, .cells [.int .i64 y10.Force.Low, .int .i64 y10.Force.High].toArray 39), (b1, .cells [r_v0, .int .i64 r.Canopy.Frame.Low, .int .i64 r.Canopy.Frame.High, .int .i64 r.Canopy.Frame.Ease.Num, .int .i64 r.Canopy.Frame.Ease.Den, .int .i64 r.Canopy.Frame.Rod, .int .i64 r.Canopy.Frame.Case, r_v7, r_v8, r_v9, r_v10, .int .i64 r.Wrong].toArray 90)] ∧ gs = [⟨v468, 3, 1, 0, []⟩, ⟨vout_444, 23, 1, out_444.length, xsout_444⟩] ∧ HSub H445 H501) ?_ ?_
    ·rintro H501 f bs gs ⟨b474, v468, hf1, hf2, hf5, hf6, hf7, hf31, hf32, hf33, hf34, hf37, rfl, rfl, hs501⟩
     refine (JA.norm (i := 1) hf1 (JA.norm (i := 2) hf2 (JA.norm (i := 5) hf5 (JA.norm (i := 6) hf6 (JA.norm (i := 7) hf7 (JA.norm (i := 31) hf31 (JA.norm (i := 32) hf32 (JA.norm (i := 33) hf33 (JA.norm (i := 34) hf34 (JA.norm (i := 37) hf37 ?_))))))))))
     refine JA.many [4] (by kernel_rfl) (by simp) (all_one ⟨_, #[true, true, true, true, true, true, true, false, false, false, false], rfl, (by kernel_rfl), ?_⟩)
     refine JL.appD (R := RInt) 0 (l := ([] : List Int)) (m := first) ap_23 rfl ⟨rfl, rfl⟩ rfl CH.nil rfl (SL.mono RInt.mono (HSub.trans hs445 hs501) hfirst_0) (RInt.one _) hl451 .none rfl ?_
     intro v502 xs503 hch504
     refine JA.after hE hs501 (.cons _ (.cons_cons _ (.cons_cons _ (List.nil_sublist _)))) ?_
     exact nd489_0 _ _ _ _ ⟨b474, v502, xs503, rfl, rfl, rfl, rfl, rfl, rfl, rfl, rfl, rfl, rfl, rfl, hch504, hs501⟩
    intro nd489_1
    refine JA.take 0 (listed' := #[true, false, false, false, false, false, false, false, false, false, false]) hQ rfl (by kernel_rfl) (by kernel_rfl) (by kernel_rfl) (by kernel_rfl) (by kernel_rfl) hE (HSub.refl _) (.cons_cons _ (.cons_cons _ (List.nil_sublist _))) ?_
    refine JL.move .none rfl ?_
    refine JA.cont ?_
    refine JA.take 1 (listed' := #[true, true, false, false, false, false, false, false, false, false, false]) hQ rfl (by kernel_rfl) (by kernel_rfl) (by kernel_rfl) (by kernel_rfl) (by kernel_rfl) hE (HSub.refl _) (.cons_cons _ (.cons_cons _ (List.nil_sublist _))) ?_
    refine JL.loadOwn 1 az_90 rfl rfl rfl .none rfl ?_
    refine JA.cont ?_
    refine JA.take 3 (listed' := #[true, true, false, true, false, false, false, false, false, false, false]) hQ rfl (by kernel_rfl) (by kernel_rfl) (by kernel_rfl) (by kernel_rfl) (by kernel_rfl) hE (HSub.refl _) (.cons_cons _ (.cons_cons _ (List.nil_sublist _))) ?_
    refine JL.move .none rfl ?_
    refine JA.cont ?_
    refine JA.take 5 (listed' := #[true, true, false, true, false, true, false, false, false, false, false]) hQ rfl (by kernel_rfl) (by kernel_rfl) (by kernel_rfl) (by kernel_rfl) (by kernel_rfl) hE (HSub.refl _) (.cons_cons _ (.cons_cons _ (List.nil_sublist _))) ?_
    refine JL.move .none rfl ?_
    refine JA.cont ?_
    refine JA.many [2, 6] (by kernel_rfl) (by simp) (all_cons ⟨_, #[true, true, true, true, false, true, false, false, false, false, false], rfl, (by kernel_rfl), ?_⟩ (all_one ⟨_, #[true, true, false, true, false, true, true, false, false, false, false], rfl, (by kernel_rfl), ?_⟩))
    ·skip
     refine JL.emptySlice ap_23 .none rfl ?_
     intro v505
     refine JA.after hE (HSub.refl _) (.cons_cons _ (.cons_cons _ (List.nil_sublist _))) ?_
     refine JA.many [4, 6] (by kernel_rfl) (by simp) (all_cons ⟨_, #[true, true, true, true, true, true, false, false, false, false, false], rfl, (by kernel_rfl), ?_⟩ (all_one ⟨_, #[true, true, true, true, false, true, true, false, false, false, false], rfl, (by kernel_rfl), ?_⟩))
     ·skip
      refine JL.appD (R := RInt) 0 (l := ([] : List Int)) (m := first) ap_23 rfl ⟨rfl, rfl⟩ rfl CH.nil rfl (SL.mono RInt.mono hs445 hfirst_0) (RInt.one _) hl451 .none rfl ?_
      intro v507 xs508 hch509
      refine JA.after hE (HSub.refl _) (.cons_cons _ (.cons_cons _ (List.nil_sublist _))) ?_
      refine JA.many [6] (by kernel_rfl) (by simp) (all_one ⟨_, #[true, true, true, true, true, true, true, false, false, false, false], rfl, (by kernel_rfl), ?_⟩)
      refine JL.buildSlice (e := 3) (l := [.int .i64 n_443]) (by kernel_rfl) .none rfl ?_
      intro b510
      refine JA.after hE (HSub.refl _) (.cons _ (.cons_cons _ (.cons_cons _ (List.nil_sublist _)))) ?_
      exact nd489_0 _ _ _ _ ⟨b510, v507, xs508, rfl, rfl, rfl, rfl, rfl, rfl, rfl, rfl, rfl, rfl, rfl, hch509, (HSub.refl _)⟩
     ·skip
      refine JL.buildSlice (e := 3) (l := [.int .i64 n_443]) (by kernel_rfl) .none rfl ?_
      intro b511
      refine JA.after hE (HSub.refl _) (.cons _ (.cons_cons _ (.cons_cons _ (List.nil_sublist _)))) ?_
      exact nd489_1 _ _ _ _ ⟨b511, v505, rfl, rfl, rfl, rfl, rfl, rfl, rfl, rfl, rfl, rfl, rfl, rfl, (HSub.refl _)⟩
    ·skip
     refine JL.buildSlice (e := 3) (l := [.int .i64 n_443]) (by kernel_rfl) .none rfl ?_
     intro b512
     refine JA.after hE (HSub.refl _) (.cons _ (.cons_cons _ (.cons_cons _ (List.nil_sublist _)))) ?_
     refine JA.many [2] (by kernel_rfl) (by simp) (all_one ⟨_, #[true, true, true, true, false, true, true, false, false, false, false], rfl, (by kernel_rfl), ?_⟩)
     refine JL.emptySlice ap_23 .none rfl ?_
     intro v513
     refine JA.after hE (HSub.refl _) (.cons _ (.cons_cons _ (.cons_cons _ (List.nil_sublist _)))) ?_
     exact nd489_1 _ _ _ _ ⟨b512, v513, rfl, rfl, rfl, rfl, rfl, rfl, rfl, rfl, rfl, rfl, rfl, rfl, (HSub.refl _)⟩
   ·refine JC.cond_f (b := decide (n_443 ≤ y10.Force.High)) rfl hc448 ?_
    refine JC.exit (JQ.exit_then (JQ.exit_then (JQ.exit_block ?_)))
    obtain rfl := Option.some.inj hF
    have ehr446 := hr446 _ rfl
    subst ehr446
    refine JQ.mask [false, false] [true] ?_
    exact JQ.join out_444 ⟨vout_444, xsout_444, rfl, rfl, rfl, hout_444, hs445, rfl⟩
  ·rintro out_300 H301 f bs gs ⟨vout_300, xsout_300, hf5, rfl, rfl, hout_300, hs301, rfl⟩
   have hF := hKr302
   try dsimp only at hF
   refine (JQ.norm (i := 5) hf5 ?_)
   refine JQ.go (JC.seq (JC.region (by rfl) ?_))
   intro hQ
   refine JL.move .none rfl ?_
   refine JL.assign .none rfl ?_
   refine JL.done hQ (JQ.go (JC.ret (JQ.freezeG 0 (R := (RSl 1 RInt)) rfl (RSl.mono RInt.mono) hout_300 rfl ?_)))
   intro H515 hs515 hg516
   obtain rfl := Option.some.inj hF
   exact JQ.outH rfl (.tmp .nil) hg516
-- 238 ferrule/ferruleref13.Above
def F_ref13_Above_s1 (n : Nat) (forces : List Int) (limit : Int) : Int × Int → Option ((Int × Int) ⊕ Int)
 | (n_76, i_77) => if decide (i_77 < (forces.length : Int)) = true then ((geti forces i_77).bind fun y82 => (if decide (limit ≤ y82) = true then (some (w64 (n_76 + 1))) else (some n_76)).bind fun n_88 => some (Sum.inl (n_88, (w64 (i_77 + 1))))) else (some (Sum.inr n_76))
def F_ref13_Above (n : Nat) (forces : List Int) (limit : Int) : Option Int :=
 (loopO n (F_ref13_Above_s1 n forces limit) (0, 0)).bind fun n_45 => some n_45
theorem c_ref13_Above (n : Nat) (H : Hp) (forces : List Int) (forces_v0 : Value) (hforces_0 : SL H 1 RInt forces_v0 forces) (limit : Int) (y : Int) (hF : F_ref13_Above n forces limit = some y) : SC Try.prog 238 [forces_v0, .int .i64 limit] (.int .i64 y) H := by
 rw [F_ref13_Above] at hF
 refine SC.of (N := 22) Try.func238 rfl rfl rfl fun w => ?_
 refine JC.seq (JC.region (by rfl) ?_)
 intro hQ
 refine JL.assign .none rfl ?_
 refine JL.done hQ (JQ.go (JC.seq (JC.region (by rfl) ?_)))
 intro hQ
 refine JL.assign .none rfl ?_
 refine JL.done hQ (JQ.go (JC.seq (JC.seq (JC.region (by rfl) ?_))))
 intro hQ
 refine JL.assign .none rfl ?_
 refine JL.done hQ (JQ.go ?_)
 obtain ⟨r47, hlr47, hKr47⟩ := bind_some hF
 refine JC.join (fun (n_45 : Int) H46 f bs gs => f 5 = .int .i64 n_45 ∧ bs = [] ∧ gs = [] ∧ HSub H H46 ∧ n_45 = r47) ?_ ?_
 ·skip
  refine JC.block (JC.loop hlr47 (fun (x : Int × Int) H78 f bs gs => match x with | (n_76, i_77) => f 0 = forces_v0 ∧ f 1 = .int .i64 limit ∧ f 5 = .int .i64 n_76 ∧ f 6 = .int .i64 i_77 ∧ bs = [] ∧ gs = [] ∧ HSub H H78) ⟨rfl, rfl, rfl, rfl, rfl, rfl, (HSub.refl _)⟩ ?_)
  rintro ⟨n_76, i_77⟩ x80 H78 f bs gs ⟨hf0, hf1, hf5, hf6, rfl, rfl, hs78⟩ hF hr79
  rw [F_ref13_Above_s1] at hF
  refine (JC.norm (i := 0) hf0 (JC.norm (i := 1) hf1 (JC.norm (i := 5) hf5 (JC.norm (i := 6) hf6 ?_))))
  refine JC.seq (JC.seq (JC.region (by rfl) ?_))
  intro hQ
  refine JL.move .none rfl ?_
  refine JL.move .none rfl ?_
  refine JL.lenSL (R := RInt) ul_23 (SL.mono RInt.mono hs78 hforces_0) .none rfl ?_
  refine JL.bin rfl rfl rfl .none rfl ?_
  refine JL.done hQ (JQ.go ?_)
  rcases ite_some hF with ⟨hc81, hF⟩ | ⟨hc81, hF⟩
  ·refine JC.cond_t (b := decide (i_77 < (forces.length : Int))) rfl hc81 ?_
   refine JC.skip (JQ.go (JC.seq (JC.block (JC.seq (JC.region (by rfl) ?_)))))
   intro hQ
   refine JL.move .none rfl ?_
   refine JL.move .none rfl ?_
   obtain ⟨y82, hy82, hF⟩ := bind_some hF
   refine JL.indexSL (R := RInt) sl_23 (SL.mono RInt.mono hs78 hforces_0) rfl hy82 .none rfl ?_
   rintro b83 o84 cs85 hc86 - rfl
   refine JL.loadH 0 az_3 rfl hc86 rfl .none rfl ?_
   refine JL.move .none rfl ?_
   refine JL.bin rfl rfl rfl .none rfl ?_
   refine JL.done hQ (JQ.go (JC.fresh (fun f => f 0 = forces_v0 ∧ f 1 = .int .i64 limit ∧ f 5 = .int .i64 n_76 ∧ f 6 = .int .i64 i_77 ∧ f 18 = .bool (decide (limit ≤ y82))) ⟨rfl, rfl, rfl, rfl, rfl⟩ ?_))
   rintro f ⟨hf0, hf1, hf5, hf6, hf18⟩
   refine (JC.norm (i := 0) hf0 (JC.norm (i := 1) hf1 (JC.norm (i := 5) hf5 (JC.norm (i := 6) hf6 (JC.norm (i := 18) hf18 ?_)))))
   obtain ⟨r90, hlr90, hKr90⟩ := bind_some hF
   refine JC.join (fun (n_88 : Int) H89 f bs gs => f 0 = forces_v0 ∧ f 1 = .int .i64 limit ∧ f 5 = .int .i64 n_88 ∧ f 6 = .int .i64 i_77 ∧ bs = [] ∧ gs = [] ∧ HSub H78 H89 ∧ n_88 = r90) ?_ ?_
   ·have hF := hlr90
    rcases ite_some hF with ⟨hc91, hF⟩ | ⟨hc91, hF⟩
    ·refine JC.cond_t (b := decide (limit ≤ y82)) rfl hc91 ?_
     refine JC.region (by rfl) ?_
     intro hQ
     refine JL.move .none rfl ?_
     refine JL.bin rfl rfl rfl .none rfl ?_
     refine JL.assign .none rfl ?_
     refine JL.done hQ ?_
     obtain rfl := Option.some.inj hF
     exact JQ.join (w64 (n_76 + 1)) ⟨rfl, rfl, rfl, rfl, rfl, rfl, (HSub.refl _), rfl⟩
    ·refine JC.cond_f (b := decide (limit ≤ y82)) rfl hc91 ?_
     refine JC.skip ?_
     obtain rfl := Option.some.inj hF
     exact JQ.join n_76 ⟨rfl, rfl, rfl, rfl, rfl, rfl, (HSub.refl _), rfl⟩
   ·rintro n_88 H89 f bs gs ⟨hf0, hf1, hf5, hf6, rfl, rfl, hs89, rfl⟩
    have hF := hKr90
    try dsimp only at hF
    refine (JQ.norm (i := 0) hf0 (JQ.norm (i := 1) hf1 (JQ.norm (i := 5) hf5 (JQ.norm (i := 6) hf6 ?_))))
    refine JQ.normal_block (JQ.go (JC.region (by rfl) ?_))
    intro hQ
    refine JL.move .none rfl ?_
    refine JL.bin rfl rfl rfl .none rfl ?_
    refine JL.assign .none rfl ?_
    refine JL.done hQ ?_
    obtain rfl := Option.some.inj hF
    exact JQ.next rfl ⟨rfl, rfl, rfl, rfl, rfl, rfl, (HSub.trans hs78 hs89)⟩
  ·refine JC.cond_f (b := decide (i_77 < (forces.length : Int))) rfl hc81 ?_
   refine JC.exit (JQ.exit_then (JQ.exit_then (JQ.exit_block ?_)))
   obtain rfl := Option.some.inj hF
   have ehr79 := hr79 _ rfl
   subst ehr79
   exact JQ.join n_76 ⟨rfl, rfl, rfl, hs78, rfl⟩
 ·rintro n_45 H46 f bs gs ⟨hf5, rfl, rfl, hs46, rfl⟩
  have hF := hKr47
  try dsimp only at hF
  refine (JQ.norm (i := 5) hf5 ?_)
  refine JQ.go (JC.seq (JC.region (by rfl) ?_))
  intro hQ
  refine JL.move .none rfl ?_
  refine JL.assign .none rfl ?_
  refine JL.done hQ (JQ.go (JC.ret ?_))
  obtain rfl := Option.some.inj hF
  exact JQ.outS rfl (.tmp .nil) rfl
-- 217 ferrule/ferruleref13.IsRight
def F_ref13_IsRight (n : Nat) (m : Meter) (forces : List Int) : Option Bool :=
 (F_ref13_Above n forces m.Limit).bind fun y3 => some (y3 == m.Count)
theorem c_ref13_IsRight (n : Nat) (H : Hp) (m : Meter) (forces : List Int) (forces_v0 : Value) (hforces_0 : SL H 1 RInt forces_v0 forces) (y : Bool) (hF : F_ref13_IsRight n m forces = some y) : SC Try.prog 217 [.agg [.int .i64 m.Limit, .int .i64 m.Count].toArray, forces_v0] (.bool y) H := by
 rw [F_ref13_IsRight] at hF
 refine SC.of (N := 12) Try.func217 rfl rfl rfl fun w => ?_
 refine JC.seq (JC.region (by rfl) ?_)
 intro hQ
 refine JL.box (cs := [.int .i64 m.Limit, .int .i64 m.Count]) rfl .none rfl ?_
 intro b1
 refine JL.assign .none rfl ?_
 refine JL.done hQ (JQ.go (JC.seq (JC.draw (by rfl) mo_ (by kernel_rfl) ?_)))
 intro hQ
 refine JL.move .none rfl ?_
 refine JL.fieldAddr fo_206_0 rfl .none rfl ?_
 refine JL.loadOwn 0 az_3 rfl rfl rfl .none rfl ?_
 obtain ⟨y3, hy3, hF⟩ := bind_some hF
 refine JL.callS (c_ref13_Above n H forces forces_v0 hforces_0 m.Limit y3 hy3) rfl en_238 .none rfl ?_
 refine JL.fieldAddr fo_206_1 rfl .none rfl ?_
 refine JL.loadOwn 0 az_3 rfl rfl rfl .none rfl ?_
 refine JL.bin rfl rfl rfl .none rfl ?_
 refine JL.assign .none rfl ?_
 refine JL.doneQ hQ ?_
 refine JQ.go (JC.ret ?_)
 obtain rfl := Option.some.inj hF
 exact JQ.outS rfl (.tmp .nil) rfl
-- 183 ferrule/ferruleref13.Wrongs
def F_ref13_Wrongs_s1 (n : Nat) (r : Run) (forces : List Int) : Int × Int → Option ((Int × Int) ⊕ Int)
 | (n_82, i_83) => if decide (i_83 < (r.Meters.length : Int)) = true then ((geti r.Meters i_83).bind fun y88 => (F_ref13_IsRight n y88 forces).bind fun y93 => (if (!y93) = true then (some (w64 (n_82 + 1))) else (some n_82)).bind fun n_95 => some (Sum.inl (n_95, (w64 (i_83 + 1))))) else (some (Sum.inr n_82))
def F_ref13_Wrongs (n : Nat) (r : Run) (forces : List Int) : Option Int :=
 (loopO n (F_ref13_Wrongs_s1 n r forces) (0, 0)).bind fun n_49 => some n_49
theorem c_ref13_Wrongs (n : Nat) (H : Hp) (r : Run) (r_v0 : Value) (hr_0 : SL H 7 R_Section r_v0 r.Canopy.Frame.Sections) (r_v7 : Value) (hr_7 : SL H 2 R_Span r_v7 r.Canopy.Ribs) (r_v8 : Value) (hr_8 : SL H 1 RInt r_v8 r.Canopy.Shares) (r_v9 : Value) (hr_9 : SL H 3 R_Blow r_v9 r.Blows) (r_v10 : Value) (hr_10 : SL H 2 R_Meter r_v10 r.Meters) (forces : List Int) (forces_v0 : Value) (hforces_0 : SL H 1 RInt forces_v0 forces) (y : Int) (hF : F_ref13_Wrongs n r forces = some y) : SC Try.prog 183 [.agg [r_v0, .int .i64 r.Canopy.Frame.Low, .int .i64 r.Canopy.Frame.High, .int .i64 r.Canopy.Frame.Ease.Num, .int .i64 r.Canopy.Frame.Ease.Den, .int .i64 r.Canopy.Frame.Rod, .int .i64 r.Canopy.Frame.Case, r_v7, r_v8, r_v9, r_v10, .int .i64 r.Wrong].toArray, forces_v0] (.int .i64 y) H := by
 rw [F_ref13_Wrongs] at hF
 refine SC.of (N := 25) Try.func183 rfl rfl rfl fun w => ?_
 refine JC.seq (JC.region (by rfl) ?_)
 intro hQ
 refine JL.box (cs := [r_v0, .int .i64 r.Canopy.Frame.Low, .int .i64 r.Canopy.Frame.High, .int .i64 r.Canopy.Frame.Ease.Num, .int .i64 r.Canopy.Frame.Ease.Den, .int .i64 r.Canopy.Frame.Rod, .int .i64 r.Canopy.Frame.Case, r_v7, r_v8, r_v9, r_v10, .int .i64 r.Wrong]) rfl .none rfl ?_
 intro b1
 refine JL.assign .none rfl ?_
 refine JL.done hQ (JQ.go (JC.seq (JC.region (by rfl) ?_)))
 intro hQ
 refine JL.assign .none rfl ?_
 refine JL.done hQ (JQ.go (JC.seq (JC.seq (JC.region (by rfl) ?_))))
 intro hQ
 refine JL.assign .none rfl ?_
 refine JL.done hQ (JQ.go ?_)
 obtain ⟨r51, hlr51, hKr51⟩ := bind_some hF
 refine JC.join (fun (n_49 : Int) H50 f bs gs => f 5 = .int .i64 n_49 ∧ bs = [] ∧ gs = [] ∧ HSub H H50 ∧ n_49 = r51) ?_ ?_
 ·skip
  refine JC.block (JC.loop hlr51 (fun (x : Int × Int) H84 f bs gs => match x with | (n_82, i_83) => f 1 = forces_v0 ∧ f 2 = .pointer (some ⟨b1, 0, none⟩) ∧ f 5 = .int .i64 n_82 ∧ f 6 = .int .i64 i_83 ∧ bs = [(b1, .cells [r_v0, .int .i64 r.Canopy.Frame.Low, .int .i64 r.Canopy.Frame.High, .int .i64 r.Canopy.Frame.Ease.Num, .int .i64 r.Canopy.Frame.Ease.Den, .int .i64 r.Canopy.Frame.Rod, .int .i64 r.Canopy.Frame.Case, r_v7, r_v8, r_v9, r_v10, .int .i64 r.Wrong].toArray 90)] ∧ gs = [] ∧ HSub H H84) ⟨rfl, rfl, rfl, rfl, rfl, rfl, (HSub.refl _)⟩ ?_)
  rintro ⟨n_82, i_83⟩ x86 H84 f bs gs ⟨hf1, hf2, hf5, hf6, rfl, rfl, hs84⟩ hF hr85
  rw [F_ref13_Wrongs_s1] at hF
  refine (JC.norm (i := 1) hf1 (JC.norm (i := 2) hf2 (JC.norm (i := 5) hf5 (JC.norm (i := 6) hf6 ?_))))
  refine JC.seq (JC.seq (JC.region (by rfl) ?_))
  intro hQ
  refine JL.move .none rfl ?_
  refine JL.fieldAddr fo_90_2 rfl .none rfl ?_
  refine JL.loadOwn 0 az_88 rfl rfl rfl .none rfl ?_
  refine JL.lenSL (R := R_Meter) ul_88 (SL.mono R_Meter_mono hs84 hr_10) .none rfl ?_
  refine JL.bin rfl rfl rfl .none rfl ?_
  refine JL.done hQ (JQ.go ?_)
  rcases ite_some hF with ⟨hc87, hF⟩ | ⟨hc87, hF⟩
  ·refine JC.cond_t (b := decide (i_83 < (r.Meters.length : Int))) rfl hc87 ?_
   refine JC.skip (JQ.go (JC.seq (JC.block (JC.seq (JC.region (by rfl) ?_)))))
   intro hQ
   refine JL.fieldAddr fo_90_2 rfl .none rfl ?_
   refine JL.loadOwn 0 az_88 rfl rfl rfl .none rfl ?_
   refine JL.move .none rfl ?_
   obtain ⟨y88, hy88, hF⟩ := bind_some hF
   refine JL.indexSL (R := R_Meter) sl_88 (SL.mono R_Meter_mono hs84 hr_10) rfl hy88 .none rfl ?_
   rintro b89 o90 cs91 hc92 - rfl
   refine JL.loadH 0 az_206 rfl hc92 rfl .none rfl ?_
   refine JL.move .none rfl ?_
   obtain ⟨y93, hy93, hF⟩ := bind_some hF
   refine JL.callS (c_ref13_IsRight n H84 y88 forces forces_v0 (SL.mono RInt.mono hs84 hforces_0) y93 hy93) rfl en_217 .none rfl ?_
   refine JL.not rfl .none rfl ?_
   refine JL.done hQ (JQ.go (JC.fresh (fun f => f 1 = forces_v0 ∧ f 2 = .pointer (some ⟨b1, 0, none⟩) ∧ f 5 = .int .i64 n_82 ∧ f 6 = .int .i64 i_83 ∧ f 21 = .bool (!y93)) ⟨rfl, rfl, rfl, rfl, rfl⟩ ?_))
   rintro f ⟨hf1, hf2, hf5, hf6, hf21⟩
   refine (JC.norm (i := 1) hf1 (JC.norm (i := 2) hf2 (JC.norm (i := 5) hf5 (JC.norm (i := 6) hf6 (JC.norm (i := 21) hf21 ?_)))))
   obtain ⟨r97, hlr97, hKr97⟩ := bind_some hF
   refine JC.join (fun (n_95 : Int) H96 f bs gs => f 1 = forces_v0 ∧ f 2 = .pointer (some ⟨b1, 0, none⟩) ∧ f 5 = .int .i64 n_95 ∧ f 6 = .int .i64 i_83 ∧ bs = [(b1, .cells [r_v0, .int .i64 r.Canopy.Frame.Low, .int .i64 r.Canopy.Frame.High, .int .i64 r.Canopy.Frame.Ease.Num, .int .i64 r.Canopy.Frame.Ease.Den, .int .i64 r.Canopy.Frame.Rod, .int .i64 r.Canopy.Frame.Case, r_v7, r_v8, r_v9, r_v10, .int .i64 r.Wrong].toArray 90)] ∧ gs = [] ∧ HSub H84 H96 ∧ n_95 = r97) ?_ ?_
   ·have hF := hlr97
    rcases ite_some hF with ⟨hc98, hF⟩ | ⟨hc98, hF⟩
    ·refine JC.cond_t (b := (!y93)) rfl hc98 ?_
     refine JC.region (by rfl) ?_
     intro hQ
     refine JL.move .none rfl ?_
     refine JL.bin rfl rfl rfl .none rfl ?_
     refine JL.assign .none rfl ?_
     refine JL.done hQ ?_
     obtain rfl := Option.some.inj hF
     exact JQ.join (w64 (n_82 + 1)) ⟨rfl, rfl, rfl, rfl, rfl, rfl, (HSub.refl _), rfl⟩
    ·refine JC.cond_f (b := (!y93)) rfl hc98 ?_
     refine JC.skip ?_
     obtain rfl := Option.some.inj hF
     exact JQ.join n_82 ⟨rfl, rfl, rfl, rfl, rfl, rfl, (HSub.refl _), rfl⟩
   ·rintro n_95 H96 f bs gs ⟨hf1, hf2, hf5, hf6, rfl, rfl, hs96, rfl⟩
    have hF := hKr97
    try dsimp only at hF
    refine (JQ.norm (i := 1) hf1 (JQ.norm (i := 2) hf2 (JQ.norm (i := 5) hf5 (JQ.norm (i := 6) hf6 ?_))))
    refine JQ.normal_block (JQ.go (JC.region (by rfl) ?_))
    intro hQ
    refine JL.move .none rfl ?_
    refine JL.bin rfl rfl rfl .none rfl ?_
    refine JL.assign .none rfl ?_
    refine JL.done hQ ?_
    obtain rfl := Option.some.inj hF
    exact JQ.next rfl ⟨rfl, rfl, rfl, rfl, rfl, rfl, (HSub.trans hs84 hs96)⟩
  ·refine JC.cond_f (b := decide (i_83 < (r.Meters.length : Int))) rfl hc87 ?_
   refine JC.exit (JQ.exit_then (JQ.exit_then (JQ.exit_block ?_)))
   obtain rfl := Option.some.inj hF
   have ehr85 := hr85 _ rfl
   subst ehr85
   refine JQ.mask [false] [] ?_
   exact JQ.join n_82 ⟨rfl, rfl, rfl, hs84, rfl⟩
 ·rintro n_49 H50 f bs gs ⟨hf5, rfl, rfl, hs50, rfl⟩
  have hF := hKr51
  try dsimp only at hF
  refine (JQ.norm (i := 5) hf5 ?_)
  refine JQ.go (JC.seq (JC.region (by rfl) ?_))
  intro hQ
  refine JL.move .none rfl ?_
  refine JL.assign .none rfl ?_
  refine JL.done hQ (JQ.go (JC.ret ?_))
  obtain rfl := Option.some.inj hF
  exact JQ.outS rfl (.tmp .nil) rfl
-- 147 ferrule/ferruleref13.truths
def F_ref13_truths_s1 (n : Nat) (r : Run) (y2 : (List (List Int))) : Int × List (List Int) → Option ((Int × List (List Int)) ⊕ (List (List Int)))
 | (i_306, out_307) => if decide (i_306 < (y2.length : Int)) = true then ((geti y2 i_306).bind fun y318 => (F_ref13_Wrongs n r y318).bind fun y323 => (if decide (y323 ≤ r.Wrong) = true then ((geti y2 i_306).bind fun y342 => (lim (out_307 ++ [y342])).bind fun l351 => some l351) else (some out_307)).bind fun out_338 => some (Sum.inl ((w64 (i_306 + 1)), out_338))) else (some (Sum.inr out_307))
def F_ref13_truths (n : Nat) (r : Run) : Option (List (List Int)) :=
 (F_ref13_cases n r ([] : List Int)).bind fun y2 => (loopO n (F_ref13_truths_s1 n r y2) (0, ([] : List (List Int)))).bind fun out_209 => some out_209
theorem c_ref13_truths (n : Nat) (H : Hp) (r : Run) (r_v0 : Value) (hr_0 : SL H 7 R_Section r_v0 r.Canopy.Frame.Sections) (r_v7 : Value) (hr_7 : SL H 2 R_Span r_v7 r.Canopy.Ribs) (r_v8 : Value) (hr_8 : SL H 1 RInt r_v8 r.Canopy.Shares) (r_v9 : Value) (hr_9 : SL H 3 R_Blow r_v9 r.Blows) (r_v10 : Value) (hr_10 : SL H 2 R_Meter r_v10 r.Meters) (y : (List (List Int))) (hF : F_ref13_truths n r = some y) : HC Try.prog 147 [.agg [r_v0, .int .i64 r.Canopy.Frame.Low, .int .i64 r.Canopy.Frame.High, .int .i64 r.Canopy.Frame.Ease.Num, .int .i64 r.Canopy.Frame.Ease.Den, .int .i64 r.Canopy.Frame.Rod, .int .i64 r.Canopy.Frame.Case, r_v7, r_v8, r_v9, r_v10, .int .i64 r.Wrong].toArray] H (fun H' ra_v0 => SL H' 1 (RSl 1 RInt) ra_v0 y) := by
 rw [F_ref13_truths] at hF
 refine HC.of (N := 31) Try.func147 rfl rfl rfl fun w => ?_
 refine JC.seq (JC.region (by rfl) ?_)
 intro hQ
 refine JL.box (cs := [r_v0, .int .i64 r.Canopy.Frame.Low, .int .i64 r.Canopy.Frame.High, .int .i64 r.Canopy.Frame.Ease.Num, .int .i64 r.Canopy.Frame.Ease.Den, .int .i64 r.Canopy.Frame.Rod, .int .i64 r.Canopy.Frame.Case, r_v7, r_v8, r_v9, r_v10, .int .i64 r.Wrong]) rfl .none rfl ?_
 intro b1
 refine JL.assign .none rfl ?_
 refine JL.done hQ (JQ.go (JC.seq (JC.region (by rfl) ?_)))
 intro hQ
 refine JL.assign .none rfl ?_
 refine JL.done hQ (JQ.go (JC.seq (JC.region (by rfl) ?_)))
 intro hQ
 refine JL.loadOwn 0 az_90 rfl rfl rfl .none rfl ?_
 obtain ⟨y2, hy2, hF⟩ := bind_some hF
 refine JL.callH (c_ref13_cases n H r r_v0 hr_0 r_v7 hr_7 r_v8 hr_8 r_v9 hr_9 r_v10 hr_10 ([] : List Int) (.slice none 0 0) SL.nil y2 hy2) rfl en_182 .none rfl ?_
 intro H3 y2a_v0 hs3 hy2a_0
 refine JL.assign .none rfl ?_
 refine JL.done hQ (JQ.go (JC.seq (JC.seq (JC.region (by rfl) ?_))))
 intro hQ
 refine JL.assign .none rfl ?_
 refine JL.done hQ (JQ.go (JC.newNil (e := 23) (sz := 1) ?_))
 obtain ⟨r211, hlr211, hKr211⟩ := bind_some hF
 refine JC.join (fun (out_209 : List (List Int)) H210 f bs gs => ∃ (vout_209 : Value) (xsout_209 : List Value), f 3 = vout_209 ∧ bs = [] ∧ gs = [⟨vout_209, 23, 1, out_209.length, xsout_209⟩] ∧ CH H210 1 (RSl 1 RInt) xsout_209 out_209 ∧ HSub H3 H210 ∧ out_209 = r211) ?_ ?_
 ·skip
  refine JC.block (JC.loop hlr211 (fun (x : Int × List (List Int)) H308 f bs gs => match x with | (i_306, out_307) => ∃ (vout_307 : Value) (xsout_307 : List Value), f 1 = .pointer (some ⟨b1, 0, none⟩) ∧ f 3 = vout_307 ∧ f 4 = y2a_v0 ∧ f 5 = .int .i64 i_306 ∧ bs = [(b1, .cells [r_v0, .int .i64 r.Canopy.Frame.Low, .int .i64 r.Canopy.Frame.High, .int .i64 r.Canopy.Frame.Ease.Num, .int .i64 r.Canopy.Frame.Ease.Den, .int .i64 r.Canopy.Frame.Rod, .int .i64 r.Canopy.Frame.Case, r_v7, r_v8, r_v9, r_v10, .int .i64 r.Wrong].toArray 90)] ∧ gs = [⟨vout_307, 23, 1, out_307.length, xsout_307⟩] ∧ CH H308 1 (RSl 1 RInt) xsout_307 out_307 ∧ HSub H3 H308) ⟨(.slice none 0 0), [], rfl, rfl, rfl, rfl, rfl, rfl, CH.nil, (HSub.refl _)⟩ ?_)
  rintro ⟨i_306, out_307⟩ x310 H308 f bs gs ⟨vout_307, xsout_307, hf1, hf3, hf4, hf5, rfl, rfl, hout_307, hs308⟩ hF hr309
  rw [F_ref13_truths_s1] at hF
  refine (JC.norm (i := 1) hf1 (JC.norm (i := 3) hf3 (JC.norm (i := 4) hf4 (JC.norm (i := 5) hf5 ?_))))
  refine JC.seq (JC.seq (JC.region (by rfl) ?_))
  intro hQ
  refine JL.move .none rfl ?_
  refine JL.move .none rfl ?_
  refine JL.lenSL (R := (RSl 1 RInt)) ul_115 (SL.mono (RSl.mono RInt.mono) hs308 hy2a_0) .none rfl ?_
  refine JL.bin rfl rfl rfl .none rfl ?_
  refine JL.done hQ (JQ.go ?_)
  rcases ite_some hF with ⟨hc311, hF⟩ | ⟨hc311, hF⟩
  ·refine JC.cond_t (b := decide (i_306 < (y2.length : Int))) rfl hc311 ?_
   refine JC.skip (JQ.go (JC.seq (JC.block (JC.seq (JC.draw (by rfl) mo_ (by kernel_rfl) ?_)))))
   intro hQ
   refine JL.loadOwn 0 az_90 rfl rfl rfl .none rfl ?_
   refine JL.move .none rfl ?_
   refine JL.move .none rfl ?_
   obtain ⟨y318, hy318, hF⟩ := bind_some hF
   refine JL.indexSL (R := (RSl 1 RInt)) sl_115 (SL.mono (RSl.mono RInt.mono) hs308 hy2a_0) rfl hy318 .none rfl ?_
   rintro b319 o320 cs321 hc322 - ⟨y318_v0, rfl, hy318_0⟩
   refine JL.loadH 0 az_23 rfl hc322 rfl .none rfl ?_
   obtain ⟨y323, hy323, hF⟩ := bind_some hF
   refine JL.callS (c_ref13_Wrongs n H308 r r_v0 (SL.mono R_Section_mono (HSub.trans hs3 hs308) hr_0) r_v7 (SL.mono R_Span_mono (HSub.trans hs3 hs308) hr_7) r_v8 (SL.mono RInt.mono (HSub.trans hs3 hs308) hr_8) r_v9 (SL.mono R_Blow_mono (HSub.trans hs3 hs308) hr_9) r_v10 (SL.mono R_Meter_mono (HSub.trans hs3 hs308) hr_10) y318 y318_v0 hy318_0 y323 hy323) rfl en_183 .none rfl ?_
   refine JL.fieldAddr fo_90_3 rfl .none rfl ?_
   refine JL.loadOwn 0 az_3 rfl rfl rfl .none rfl ?_
   refine JL.bin rfl rfl rfl .none rfl ?_
   refine JL.doneQ hQ ?_
   refine JQ.go (JC.fresh (fun f => f 1 = .pointer (some ⟨b1, 0, none⟩) ∧ f 3 = vout_307 ∧ f 4 = y2a_v0 ∧ f 5 = .int .i64 i_306 ∧ f 22 = .bool (decide (y323 ≤ r.Wrong))) ⟨rfl, rfl, rfl, rfl, rfl⟩ ?_)
   rintro f ⟨hf1, hf3, hf4, hf5, hf22⟩
   refine (JC.norm (i := 1) hf1 (JC.norm (i := 3) hf3 (JC.norm (i := 4) hf4 (JC.norm (i := 5) hf5 (JC.norm (i := 22) hf22 ?_)))))
   obtain ⟨r340, hlr340, hKr340⟩ := bind_some hF
   refine JC.join (fun (out_338 : List (List Int)) H339 f bs gs => ∃ (vout_338 : Value) (xsout_338 : List Value), f 1 = .pointer (some ⟨b1, 0, none⟩) ∧ f 3 = vout_338 ∧ f 4 = y2a_v0 ∧ f 5 = .int .i64 i_306 ∧ bs = [(b1, .cells [r_v0, .int .i64 r.Canopy.Frame.Low, .int .i64 r.Canopy.Frame.High, .int .i64 r.Canopy.Frame.Ease.Num, .int .i64 r.Canopy.Frame.Ease.Den, .int .i64 r.Canopy.Frame.Rod, .int .i64 r.Canopy.Frame.Case, r_v7, r_v8, r_v9, r_v10, .int .i64 r.Wrong].toArray 90)] ∧ gs = [⟨vout_338, 23, 1, out_338.length, xsout_338⟩] ∧ CH H339 1 (RSl 1 RInt) xsout_338 out_338 ∧ HSub H308 H339 ∧ out_338 = r340) ?_ ?_
   ·have hF := hlr340
    rcases ite_some hF with ⟨hc341, hF⟩ | ⟨hc341, hF⟩
    ·refine JC.cond_t (b := decide (y323 ≤ r.Wrong)) rfl hc341 ?_
     refine JC.region (by rfl) ?_
     intro hQ
     refine JL.move .none rfl ?_
     refine JL.move .none rfl ?_
     refine JL.move .none rfl ?_
     obtain ⟨y342, hy342, hF⟩ := bind_some hF
     refine JL.indexSL (R := (RSl 1 RInt)) sl_115 (SL.mono (RSl.mono RInt.mono) hs308 hy2a_0) rfl hy342 .none rfl ?_
     rintro b343 o344 cs345 hc346 - ⟨y342_v0, rfl, hy342_0⟩
     refine JL.loadH 0 az_23 rfl hc346 rfl .none rfl ?_
     obtain ⟨a347, c348, rfl, hh349⟩ := hy342_0
     have hy342_0 : SL H308 1 RInt (.slice a347 y342.length c348) y342 := ⟨a347, c348, rfl, hh349⟩
     refine JL.buildSlice (e := 23) (l := [(.slice a347 y342.length c348)]) (by kernel_rfl) .none rfl ?_
     intro b350
     obtain ⟨l351, hl351, hF⟩ := bind_some hF
     refine JL.appO (R := (RSl 1 RInt)) 0 0 (l := out_307) (m := [y342]) ap_115 rfl ⟨rfl, rfl⟩ rfl hout_307 rfl rfl rfl (CH.cons (cs := [(.slice a347 y342.length c348)]) rfl ⟨_, rfl, hy342_0⟩ CH.nil) rfl (one_cons (SL.one hy342_0) one_nil) hl351 .none rfl ?_
     intro v352 xs353 hch354
     refine JL.assign .none rfl ?_
     refine JL.done hQ ?_
     obtain rfl := Option.some.inj hF
     refine JQ.mask [false, true] [true] ?_
     exact JQ.join l351 ⟨v352, xs353, rfl, rfl, rfl, rfl, rfl, rfl, hch354, (HSub.refl _), rfl⟩
    ·refine JC.cond_f (b := decide (y323 ≤ r.Wrong)) rfl hc341 ?_
     refine JC.skip ?_
     obtain rfl := Option.some.inj hF
     exact JQ.join out_307 ⟨vout_307, xsout_307, rfl, rfl, rfl, rfl, rfl, rfl, hout_307, (HSub.refl _), rfl⟩
   ·rintro out_338 H339 f bs gs ⟨vout_338, xsout_338, hf1, hf3, hf4, hf5, rfl, rfl, hout_338, hs339, rfl⟩
    have hF := hKr340
    try dsimp only at hF
    refine (JQ.norm (i := 1) hf1 (JQ.norm (i := 3) hf3 (JQ.norm (i := 4) hf4 (JQ.norm (i := 5) hf5 ?_))))
    refine JQ.normal_block (JQ.go (JC.region (by rfl) ?_))
    intro hQ
    refine JL.move .none rfl ?_
    refine JL.bin rfl rfl rfl .none rfl ?_
    refine JL.assign .none rfl ?_
    refine JL.done hQ ?_
    obtain rfl := Option.some.inj hF
    exact JQ.next rfl ⟨vout_338, xsout_338, rfl, rfl, rfl, rfl, rfl, rfl, hout_338, (HSub.trans hs308 hs339)⟩
  ·refine JC.cond_f (b := decide (i_306 < (y2.length : Int))) rfl hc311 ?_
   refine JC.exit (JQ.exit_then (JQ.exit_then (JQ.exit_block ?_)))
   obtain rfl := Option.some.inj hF
   have ehr309 := hr309 _ rfl
   subst ehr309
   refine JQ.mask [false] [true] ?_
   exact JQ.join out_307 ⟨vout_307, xsout_307, rfl, rfl, rfl, hout_307, hs308, rfl⟩
 ·rintro out_209 H210 f bs gs ⟨vout_209, xsout_209, hf3, rfl, rfl, hout_209, hs210, rfl⟩
  have hF := hKr211
  try dsimp only at hF
  refine (JQ.norm (i := 3) hf3 ?_)
  refine JQ.go (JC.seq (JC.region (by rfl) ?_))
  intro hQ
  refine JL.move .none rfl ?_
  refine JL.assign .none rfl ?_
  refine JL.done hQ (JQ.go (JC.ret (JQ.freezeG 0 (R := (RSl 1 RInt)) rfl (RSl.mono RInt.mono) hout_209 rfl ?_)))
  intro H355 hs355 hg356
  obtain rfl := Option.some.inj hF
  exact JQ.outH rfl (.tmp .nil) hg356
-- 94 ferrule/ferruleref13.known
def F_ref13_known (n : Nat) (r : Run) (is : Bool) : Option ((List (List Int)) × Int) :=
 (F_ref13_Check n r).bind fun y2 => if (y2 != 0) = true then (some (([] : List (List Int)), y2)) else (if (!is) = true then (some (([] : List (List Int)), 1)) else ((F_ref13_truths n r).bind fun y5 => if ((y5.length : Int) == 0) = true then (some (([] : List (List Int)), 3)) else (some (y5, 0))))
theorem c_ref13_known (n : Nat) (H : Hp) (r : Run) (r_v0 : Value) (hr_0 : SL H 7 R_Section r_v0 r.Canopy.Frame.Sections) (r_v7 : Value) (hr_7 : SL H 2 R_Span r_v7 r.Canopy.Ribs) (r_v8 : Value) (hr_8 : SL H 1 RInt r_v8 r.Canopy.Shares) (r_v9 : Value) (hr_9 : SL H 3 R_Blow r_v9 r.Blows) (r_v10 : Value) (hr_10 : SL H 2 R_Meter r_v10 r.Meters) (is : Bool) (y : (List (List Int)) × Int) (hF : F_ref13_known n r is = some y) : HC Try.prog 94 [.agg [r_v0, .int .i64 r.Canopy.Frame.Low, .int .i64 r.Canopy.Frame.High, .int .i64 r.Canopy.Frame.Ease.Num, .int .i64 r.Canopy.Frame.Ease.Den, .int .i64 r.Canopy.Frame.Rod, .int .i64 r.Canopy.Frame.Case, r_v7, r_v8, r_v9, r_v10, .int .i64 r.Wrong].toArray, .bool is] H (fun H' v => ∃ ra_v0 : Value, v = .tuple [ra_v0, .int .i64 y.2].toArray ∧ SL H' 1 (RSl 1 RInt) ra_v0 y.1) := by
 rw [F_ref13_known] at hF
 refine HC.of (N := 21) Try.func94 rfl rfl rfl fun w => ?_
 refine JC.seq (JC.region (by rfl) ?_)
 intro hQ
 refine JL.box (cs := [r_v0, .int .i64 r.Canopy.Frame.Low, .int .i64 r.Canopy.Frame.High, .int .i64 r.Canopy.Frame.Ease.Num, .int .i64 r.Canopy.Frame.Ease.Den, .int .i64 r.Canopy.Frame.Rod, .int .i64 r.Canopy.Frame.Case, r_v7, r_v8, r_v9, r_v10, .int .i64 r.Wrong]) rfl .none rfl ?_
 intro b1
 refine JL.assign .none rfl ?_
 refine JL.assign .none rfl ?_
 refine JL.done hQ (JQ.go (JC.seq (JC.seq (JC.region (by rfl) ?_))))
 intro hQ
 refine JL.loadOwn 0 az_90 rfl rfl rfl .none rfl ?_
 obtain ⟨y2, hy2, hF⟩ := bind_some hF
 refine JL.callS (c_ref13_Check n H r r_v0 hr_0 r_v7 hr_7 r_v8 hr_8 r_v9 hr_9 r_v10 hr_10 y2 hy2) rfl en_93 .none rfl ?_
 refine JL.assign .none rfl ?_
 refine JL.done hQ (JQ.go (JC.seq (JC.region (by rfl) ?_)))
 intro hQ
 refine JL.move .none rfl ?_
 refine JL.bin rfl rfl rfl .none rfl ?_
 refine JL.done hQ (JQ.go ?_)
 rcases ite_some hF with ⟨hc3, hF⟩ | ⟨hc3, hF⟩
 ·refine JC.cond_t (b := (y2 != 0)) rfl hc3 ?_
  refine JC.seq (JC.region (by rfl) ?_)
  intro hQ
  refine JL.move .none rfl ?_
  refine JL.assign .none rfl ?_
  refine JL.assign .none rfl ?_
  refine JL.done hQ (JQ.go (JC.ret (JQ.ret_then ?_)))
  obtain rfl := Option.some.inj hF
  exact JQ.outH rfl (.tmp (.tmp .nil)) ⟨(.slice none 0 0), rfl, SL.nil⟩
 ·refine JC.cond_f (b := (y2 != 0)) rfl hc3 ?_
  refine JC.skip (JQ.go (JC.seq (JC.seq (JC.region (by rfl) ?_))))
  intro hQ
  refine JL.move .none rfl ?_
  refine JL.not rfl .none rfl ?_
  refine JL.done hQ (JQ.go ?_)
  rcases ite_some hF with ⟨hc4, hF⟩ | ⟨hc4, hF⟩
  ·refine JC.cond_t (b := (!is)) rfl hc4 ?_
   refine JC.seq (JC.region (by rfl) ?_)
   intro hQ
   refine JL.assign .none rfl ?_
   refine JL.assign .none rfl ?_
   refine JL.done hQ (JQ.go (JC.ret (JQ.ret_then ?_)))
   obtain rfl := Option.some.inj hF
   exact JQ.outH rfl (.tmp (.tmp .nil)) ⟨(.slice none 0 0), rfl, SL.nil⟩
  ·refine JC.cond_f (b := (!is)) rfl hc4 ?_
   refine JC.skip (JQ.go (JC.seq (JC.region (by rfl) ?_)))
   intro hQ
   refine JL.loadOwn 0 az_90 rfl rfl rfl .none rfl ?_
   obtain ⟨y5, hy5, hF⟩ := bind_some hF
   refine JL.callH (c_ref13_truths n H r r_v0 hr_0 r_v7 hr_7 r_v8 hr_8 r_v9 hr_9 r_v10 hr_10 y5 hy5) rfl en_147 .none rfl ?_
   intro H6 y5a_v0 hs6 hy5a_0
   refine JL.assign .none rfl ?_
   refine JL.done hQ (JQ.go (JC.fresh (fun f => f 4 = .slice none 0 0 ∧ f 5 = .int .i64 0 ∧ f 7 = y5a_v0) ⟨rfl, rfl, rfl⟩ ?_))
   rintro f ⟨hf4, hf5, hf7⟩
   refine (JC.norm (i := 4) hf4 (JC.norm (i := 5) hf5 (JC.norm (i := 7) hf7 ?_)))
   refine JC.seq (JC.seq (JC.region (by rfl) ?_))
   intro hQ
   refine JL.move .none rfl ?_
   refine JL.lenSL (R := (RSl 1 RInt)) ul_115 hy5a_0 .none rfl ?_
   refine JL.bin rfl rfl rfl .none rfl ?_
   refine JL.done hQ (JQ.go ?_)
   rcases ite_some hF with ⟨hc7, hF⟩ | ⟨hc7, hF⟩
   ·refine JC.cond_t (b := ((y5.length : Int) == 0)) rfl hc7 ?_
    refine JC.seq (JC.region (by rfl) ?_)
    intro hQ
    refine JL.assign .none rfl ?_
    refine JL.assign .none rfl ?_
    refine JL.done hQ (JQ.go (JC.ret (JQ.ret_then ?_)))
    obtain rfl := Option.some.inj hF
    exact JQ.outH rfl (.tmp (.tmp .nil)) ⟨(.slice none 0 0), rfl, SL.nil⟩
   ·refine JC.cond_f (b := ((y5.length : Int) == 0)) rfl hc7 ?_
    refine JC.skip (JQ.go (JC.seq (JC.region (by rfl) ?_)))
    intro hQ
    refine JL.move .none rfl ?_
    refine JL.assign .none rfl ?_
    refine JL.assign .none rfl ?_
    refine JL.done hQ (JQ.go (JC.ret ?_))
    obtain rfl := Option.some.inj hF
    exact JQ.outH rfl (.tmp (.tmp .nil)) ⟨y5a_v0, rfl, hy5a_0⟩
-- 41 ferrule/ferruleref13.CheckShow
def F_ref13_CheckShow (n : Nat) (r : Run) : Option Int :=
 (F_ref13_known n r true).bind fun y2 => some y2.2
theorem c_ref13_CheckShow (n : Nat) (H : Hp) (r : Run) (r_v0 : Value) (hr_0 : SL H 7 R_Section r_v0 r.Canopy.Frame.Sections) (r_v7 : Value) (hr_7 : SL H 2 R_Span r_v7 r.Canopy.Ribs) (r_v8 : Value) (hr_8 : SL H 1 RInt r_v8 r.Canopy.Shares) (r_v9 : Value) (hr_9 : SL H 3 R_Blow r_v9 r.Blows) (r_v10 : Value) (hr_10 : SL H 2 R_Meter r_v10 r.Meters) (y : Int) (hF : F_ref13_CheckShow n r = some y) : SC Try.prog 41 [.agg [r_v0, .int .i64 r.Canopy.Frame.Low, .int .i64 r.Canopy.Frame.High, .int .i64 r.Canopy.Frame.Ease.Num, .int .i64 r.Canopy.Frame.Ease.Den, .int .i64 r.Canopy.Frame.Rod, .int .i64 r.Canopy.Frame.Case, r_v7, r_v8, r_v9, r_v10, .int .i64 r.Wrong].toArray] (.int .i64 y) H := by
 rw [F_ref13_CheckShow] at hF
 refine SC.of (N := 11) Try.func41 rfl rfl rfl fun w => ?_
 refine JC.seq (JC.region (by rfl) ?_)
 intro hQ
 refine JL.box (cs := [r_v0, .int .i64 r.Canopy.Frame.Low, .int .i64 r.Canopy.Frame.High, .int .i64 r.Canopy.Frame.Ease.Num, .int .i64 r.Canopy.Frame.Ease.Den, .int .i64 r.Canopy.Frame.Rod, .int .i64 r.Canopy.Frame.Case, r_v7, r_v8, r_v9, r_v10, .int .i64 r.Wrong]) rfl .none rfl ?_
 intro b1
 refine JL.assign .none rfl ?_
 refine JL.done hQ (JQ.go (JC.seq (JC.region (by rfl) ?_)))
 intro hQ
 refine JL.loadOwn 0 az_90 rfl rfl rfl .none rfl ?_
 obtain ⟨y2, hy2, hF⟩ := bind_some hF
 refine JL.callH (c_ref13_known n H r r_v0 hr_0 r_v7 hr_7 r_v8 hr_8 r_v9 hr_9 r_v10 hr_10 true y2 hy2) rfl en_94 .none rfl ?_
 rintro H3 vv4 hs3 ⟨y2a_v0, rfl, hy2a_0⟩
 refine JL.move .none rfl ?_
 refine JL.extract rfl rfl .none rfl ?_
 refine JL.extract rfl rfl .none rfl ?_
 refine JL.assign .none rfl ?_
 refine JL.assign .none rfl ?_
 refine JL.done hQ (JQ.go (JC.seq (JC.region (by rfl) ?_)))
 intro hQ
 refine JL.move .none rfl ?_
 refine JL.assign .none rfl ?_
 refine JL.done hQ (JQ.go (JC.ret ?_))
 obtain rfl := Option.some.inj hF
 exact JQ.outS rfl (.tmp .nil) rfl
end Go.Proofs.Yteihdclpiekmaaa
end
section
set_option maxRecDepth 100000
set_option maxHeartbeats 40000000
namespace Go.Proofs.Yteihdclpiekmaaa
open Go Go.RowKit Go.Dec
set_option linter.unusedVariables false
-- 69 ferrule/ferrulelaw01.Example
def F_law01_Example (n : Nat)  : Option Frame :=
 some (Frame.mk [(Section.mk (Span.mk 50 52) (Span.mk 60 60) 0 (Frac.mk 1 1)), (Section.mk (Span.mk 40 40) (Span.mk 45 46) 5 (Frac.mk 1 2))] 20 100 (Frac.mk 1 20) 300 351)
theorem c_law01_Example (n : Nat) (H : Hp)  (y : Frame) (hF : F_law01_Example n = some y) : HC Try.prog 69 [] H (fun H' v => ∃ ra_v0 : Value, v = .agg [ra_v0, .int .i64 y.Low, .int .i64 y.High, .int .i64 y.Ease.Num, .int .i64 y.Ease.Den, .int .i64 y.Rod, .int .i64 y.Case].toArray ∧ SL H' 7 R_Section ra_v0 y.Sections) := by
 rw [F_law01_Example] at hF
 refine HC.of (N := 12) Try.func69 rfl rfl rfl fun w => ?_
 refine JC.seq (JC.region (by rfl) ?_)
 intro hQ
 refine JL.alloc ze_53 .none rfl ?_
 intro b1
 refine JL.done hQ (JQ.go (JC.seq (JC.region (by rfl) ?_)))
 intro hQ
 refine JL.build (l := [.int .i64 50, .int .i64 52]) (by kernel_rfl) .none rfl ?_
 refine JL.build (l := [.int .i64 60, .int .i64 60]) (by kernel_rfl) .none rfl ?_
 refine JL.build (l := [.int .i64 1, .int .i64 1]) (by kernel_rfl) .none rfl ?_
 refine JL.build (l := [.int .i64 50, .int .i64 52, .int .i64 60, .int .i64 60, .int .i64 0, .int .i64 1, .int .i64 1]) (by kernel_rfl) .none rfl ?_
 refine JL.build (l := [.int .i64 40, .int .i64 40]) (by kernel_rfl) .none rfl ?_
 refine JL.build (l := [.int .i64 45, .int .i64 46]) (by kernel_rfl) .none rfl ?_
 refine JL.build (l := [.int .i64 1, .int .i64 2]) (by kernel_rfl) .none rfl ?_
 refine JL.build (l := [.int .i64 40, .int .i64 40, .int .i64 45, .int .i64 46, .int .i64 5, .int .i64 1, .int .i64 2]) (by kernel_rfl) .none rfl ?_
 refine JL.buildSlice (e := 68) (l := [.int .i64 50, .int .i64 52, .int .i64 60, .int .i64 60, .int .i64 0, .int .i64 1, .int .i64 1, .int .i64 40, .int .i64 40, .int .i64 45, .int .i64 46, .int .i64 5, .int .i64 1, .int .i64 2]) (by kernel_rfl) .none rfl ?_
 intro b2
 refine JL.build (l := [.int .i64 1, .int .i64 20]) (by kernel_rfl) .none rfl ?_
 refine JL.build (l := [.slice (some ⟨b2, 0, none⟩) 2 2, .int .i64 20, .int .i64 100, .int .i64 1, .int .i64 20, .int .i64 300, .int .i64 351]) (by kernel_rfl) .none rfl ?_
 refine JL.storeOwn 1 (cs := [.slice (some ⟨b2, 0, none⟩) 2 2, .int .i64 20, .int .i64 100, .int .i64 1, .int .i64 20, .int .i64 300, .int .i64 351]) az_53 rfl rfl rfl (one_cons rfl (one_cons rfl (one_cons rfl (one_cons rfl (one_cons rfl (one_cons rfl (one_cons rfl one_nil))))))) rfl rfl .none ?_
 refine JL.done hQ (JQ.go (JC.ret (JQ.freezeC 0 (l := [.int .i64 50, .int .i64 52, .int .i64 60, .int .i64 60, .int .i64 0, .int .i64 1, .int .i64 1, .int .i64 40, .int .i64 40, .int .i64 45, .int .i64 46, .int .i64 5, .int .i64 1, .int .i64 2]) rfl ?_)))
 intro H3 hs3 hc4
 have hg5 : SL H3 7 R_Section (.slice (some ⟨b2, 0, none⟩) 2 2) [(Section.mk (Span.mk 50 52) (Span.mk 60 60) 0 (Frac.mk 1 1)), (Section.mk (Span.mk 40 40) (Span.mk 45 46) 5 (Frac.mk 1 2))] := CH.sl (l := [(Section.mk (Span.mk 50 52) (Span.mk 60 60) 0 (Frac.mk 1 1)), (Section.mk (Span.mk 40 40) (Span.mk 45 46) 5 (Frac.mk 1 2))]) (CH.cons (cs := [.int .i64 50, .int .i64 52, .int .i64 60, .int .i64 60, .int .i64 0, .int .i64 1, .int .i64 1]) rfl rfl (CH.cons (cs := [.int .i64 40, .int .i64 40, .int .i64 45, .int .i64 46, .int .i64 5, .int .i64 1, .int .i64 2]) rfl rfl CH.nil)) hc4 ⟨by simp, by simp⟩
 obtain rfl := Option.some.inj hF
 exact JQ.outH rfl (.cell 0 az_53 rfl rfl rfl .nil) ⟨(.slice (some ⟨b2, 0, none⟩) 2 2), rfl, hg5⟩
-- 83 ferrule/ferrulelaw05.Example
def F_law05_Example (n : Nat)  : Option Canopy :=
 (F_law01_Example n).bind fun y2 => some (Canopy.mk y2 [(Span.mk 100 110), (Span.mk 60 60), (Span.mk 50 55), (Span.mk 40 40), (Span.mk 50 50), (Span.mk 60 60)] [10, 6, 3, 1, 3, 6])
theorem c_law05_Example (n : Nat) (H : Hp)  (y : Canopy) (hF : F_law05_Example n = some y) : HC Try.prog 83 [] H (fun H' v => ∃ ra_v0 ra_v7 ra_v8 : Value, v = .agg [ra_v0, .int .i64 y.Frame.Low, .int .i64 y.Frame.High, .int .i64 y.Frame.Ease.Num, .int .i64 y.Frame.Ease.Den, .int .i64 y.Frame.Rod, .int .i64 y.Frame.Case, ra_v7, ra_v8].toArray ∧ SL H' 7 R_Section ra_v0 y.Frame.Sections ∧ SL H' 2 R_Span ra_v7 y.Ribs ∧ SL H' 1 RInt ra_v8 y.Shares) := by
 rw [F_law05_Example] at hF
 refine HC.of (N := 11) Try.func83 rfl rfl rfl fun w => ?_
 refine JC.seq (JC.region (by rfl) ?_)
 intro hQ
 refine JL.alloc ze_76 .none rfl ?_
 intro b1
 refine JL.done hQ (JQ.go (JC.seq (JC.region (by rfl) ?_)))
 intro hQ
 obtain ⟨y2, hy2, hF⟩ := bind_some hF
 refine JL.callH (c_law01_Example n H y2 hy2) rfl en_69 .none rfl ?_
 rintro H3 vv4 hs3 ⟨y2a_v0, rfl, hy2a_0⟩
 refine JL.build (l := [.int .i64 100, .int .i64 110]) (by kernel_rfl) .none rfl ?_
 refine JL.build (l := [.int .i64 60, .int .i64 60]) (by kernel_rfl) .none rfl ?_
 refine JL.build (l := [.int .i64 50, .int .i64 55]) (by kernel_rfl) .none rfl ?_
 refine JL.build (l := [.int .i64 40, .int .i64 40]) (by kernel_rfl) .none rfl ?_
 refine JL.build (l := [.int .i64 50, .int .i64 50]) (by kernel_rfl) .none rfl ?_
 refine JL.build (l := [.int .i64 60, .int .i64 60]) (by kernel_rfl) .none rfl ?_
 refine JL.buildSlice (e := 39) (l := [.int .i64 100, .int .i64 110, .int .i64 60, .int .i64 60, .int .i64 50, .int .i64 55, .int .i64 40, .int .i64 40, .int .i64 50, .int .i64 50, .int .i64 60, .int .i64 60]) (by kernel_rfl) .none rfl ?_
 intro b5
 refine JL.buildSlice (e := 3) (l := [.int .i64 10, .int .i64 6, .int .i64 3, .int .i64 1, .int .i64 3, .int .i64 6]) (by kernel_rfl) .none rfl ?_
 intro b6
 obtain ⟨a7, c8, rfl, hh9⟩ := hy2a_0
 have hy2a_0 : SL H3 7 R_Section (.slice a7 y2.Sections.length c8) y2.Sections := ⟨a7, c8, rfl, hh9⟩
 refine JL.build (l := [(.slice a7 y2.Sections.length c8), .int .i64 y2.Low, .int .i64 y2.High, .int .i64 y2.Ease.Num, .int .i64 y2.Ease.Den, .int .i64 y2.Rod, .int .i64 y2.Case, .slice (some ⟨b5, 0, none⟩) 6 6, .slice (some ⟨b6, 0, none⟩) 6 6]) (by kernel_rfl) .none rfl ?_
 refine JL.storeOwn 2 (cs := [(.slice a7 y2.Sections.length c8), .int .i64 y2.Low, .int .i64 y2.High, .int .i64 y2.Ease.Num, .int .i64 y2.Ease.Den, .int .i64 y2.Rod, .int .i64 y2.Case, .slice (some ⟨b5, 0, none⟩) 6 6, .slice (some ⟨b6, 0, none⟩) 6 6]) az_76 rfl rfl rfl (one_cons (SL.one hy2a_0) (one_cons rfl (one_cons rfl (one_cons rfl (one_cons rfl (one_cons rfl (one_cons rfl (one_cons rfl (one_cons rfl one_nil))))))))) rfl rfl .none ?_
 refine JL.done hQ (JQ.go (JC.ret (JQ.freezeC 1 (l := [.int .i64 100, .int .i64 110, .int .i64 60, .int .i64 60, .int .i64 50, .int .i64 55, .int .i64 40, .int .i64 40, .int .i64 50, .int .i64 50, .int .i64 60, .int .i64 60]) rfl ?_)))
 intro H10 hs10 hc11
 have hg12 : SL H10 2 R_Span (.slice (some ⟨b5, 0, none⟩) 6 6) [(Span.mk 100 110), (Span.mk 60 60), (Span.mk 50 55), (Span.mk 40 40), (Span.mk 50 50), (Span.mk 60 60)] := CH.sl (l := [(Span.mk 100 110), (Span.mk 60 60), (Span.mk 50 55), (Span.mk 40 40), (Span.mk 50 50), (Span.mk 60 60)]) (CH.cons (cs := [.int .i64 100, .int .i64 110]) rfl rfl (CH.cons (cs := [.int .i64 60, .int .i64 60]) rfl rfl (CH.cons (cs := [.int .i64 50, .int .i64 55]) rfl rfl (CH.cons (cs := [.int .i64 40, .int .i64 40]) rfl rfl (CH.cons (cs := [.int .i64 50, .int .i64 50]) rfl rfl (CH.cons (cs := [.int .i64 60, .int .i64 60]) rfl rfl CH.nil)))))) hc11 ⟨by simp, by simp⟩
 refine JQ.freezeC 0 (l := [.int .i64 10, .int .i64 6, .int .i64 3, .int .i64 1, .int .i64 3, .int .i64 6]) rfl ?_
 intro H13 hs13 hc14
 have hg15 : SL H13 1 RInt (.slice (some ⟨b6, 0, none⟩) 6 6) [10, 6, 3, 1, 3, 6] := CH.sl (l := [10, 6, 3, 1, 3, 6]) (CH.cons (cs := [.int .i64 10]) rfl rfl (CH.cons (cs := [.int .i64 6]) rfl rfl (CH.cons (cs := [.int .i64 3]) rfl rfl (CH.cons (cs := [.int .i64 1]) rfl rfl (CH.cons (cs := [.int .i64 3]) rfl rfl (CH.cons (cs := [.int .i64 6]) rfl rfl CH.nil)))))) hc14 ⟨by simp, by simp⟩
 obtain rfl := Option.some.inj hF
 exact JQ.outH rfl (.cell 0 az_76 rfl rfl rfl .nil) ⟨(.slice a7 y2.Sections.length c8), (.slice (some ⟨b5, 0, none⟩) 6 6), (.slice (some ⟨b6, 0, none⟩) 6 6), rfl, (SL.mono R_Section_mono (HSub.trans hs10 hs13) hy2a_0), (SL.mono R_Span_mono hs13 hg12), hg15⟩
-- 137 ferrule/gusts.within
def F_gusts_within (n : Nat) (n_ : Int) (low : Int) (high : Int) : Option Bool :=
 some ((decide (low ≤ n_)) && (decide (n_ ≤ high)))
theorem c_gusts_within (n : Nat) (H : Hp) (n_ : Int) (low : Int) (high : Int) (y : Bool) (hF : F_gusts_within n n_ low high = some y) : SC Try.prog 137 [.int .i64 n_, .int .i64 low, .int .i64 high] (.bool y) H := by
 rw [F_gusts_within] at hF
 refine SC.of (N := 15) Try.func137 rfl rfl rfl fun w => ?_
 refine JC.seq (JC.region (by rfl) ?_)
 intro hQ
 refine JL.assign .none rfl ?_
 refine JL.done hQ (JQ.go (JC.seq (JC.region (by rfl) ?_)))
 intro hQ
 refine JL.move .none rfl ?_
 refine JL.move .none rfl ?_
 refine JL.bin rfl rfl rfl .none rfl ?_
 refine JL.move .none rfl ?_
 refine JL.cut 4 (fun f => f 14 = .bool ((decide (low ≤ n_)) && (decide (n_ ≤ high)))) ?_ ?_
 ·intro hJ1
  rcases bcases (decide (low ≤ n_)) with hc2 | hc2
  ·skip
   refine JL.move (.some rfl rfl rfl hc2) rfl ?_
   refine JL.move (.some rfl rfl rfl hc2) rfl ?_
   refine JL.bin rfl rfl rfl (.some rfl rfl rfl hc2) rfl ?_
   refine JL.pick_t (b := decide (low ≤ n_)) rfl hc2 .none rfl ?_
   exact hJ1 _ (and_t hc2 rfl)
  ·skip
   refine JL.skip (.bool rfl rfl rfl hc2) rfl ?_
   refine JL.skip (.bool rfl rfl rfl hc2) rfl ?_
   refine JL.skip (.bool rfl rfl rfl hc2) rfl ?_
   refine JL.pick_f (b := decide (low ≤ n_)) rfl hc2 .none rfl ?_
   exact hJ1 _ (and_f hc2 rfl)
 ·rintro f hf14
  refine (JL.norm (i := 14) hf14 ?_)
  refine JL.assign .none rfl ?_
  refine JL.done hQ (JQ.go (JC.ret ?_))
  obtain rfl := Option.some.inj hF
  exact JQ.outS rfl (.tmp .nil) rfl
-- 136 ferrule/gusts.Check$1
def F_gusts_Check_1 (n : Nat) (s : Span) : Option Bool :=
 (F_gusts_within n s.Low 0 s.High).bind fun y2 => some ((!y2) || (decide (99999 < s.High)))
theorem c_gusts_Check_1 (n : Nat) (H : Hp) (s : Span) (y : Bool) (hF : F_gusts_Check_1 n s = some y) : SC Try.prog 136 [.agg [.int .i64 s.Low, .int .i64 s.High].toArray] (.bool y) H := by
 rw [F_gusts_Check_1] at hF
 refine SC.of (N := 14) Try.func136 rfl rfl rfl fun w => ?_
 refine JC.seq (JC.region (by rfl) ?_)
 intro hQ
 refine JL.box (cs := [.int .i64 s.Low, .int .i64 s.High]) rfl .none rfl ?_
 intro b1
 refine JL.assign .none rfl ?_
 refine JL.done hQ (JQ.go (JC.seq (JC.region (by rfl) ?_)))
 intro hQ
 refine JL.fieldAddr fo_39_0 rfl .none rfl ?_
 refine JL.loadOwn 0 az_3 rfl rfl rfl .none rfl ?_
 refine JL.fieldAddr fo_39_1 rfl .none rfl ?_
 refine JL.loadOwn 0 az_3 rfl rfl rfl .none rfl ?_
 obtain ⟨y2, hy2, hF⟩ := bind_some hF
 refine JL.callS (c_gusts_within n H s.Low 0 s.High y2 hy2) rfl en_137 .none rfl ?_
 refine JL.not rfl .none rfl ?_
 refine JL.move .none rfl ?_
 refine JL.cut 4 (fun f => f 13 = .bool ((!y2) || (decide (99999 < s.High)))) ?_ ?_
 ·intro hJ3
  rcases bcases (!y2) with hc4 | hc4
  ·skip
   refine JL.skip (.bool rfl rfl rfl hc4) rfl ?_
   refine JL.skip (.bool rfl rfl rfl hc4) rfl ?_
   refine JL.skip (.bool rfl rfl rfl hc4) rfl ?_
   refine JL.pick_t (b := (!y2)) rfl hc4 .none rfl ?_
   exact hJ3 _ (or_t hc4 rfl)
  ·skip
   refine JL.fieldAddr fo_39_1 rfl (.some rfl rfl rfl hc4) rfl ?_
   refine JL.loadOwn 0 az_3 rfl rfl rfl (.some rfl rfl rfl hc4) rfl ?_
   refine JL.bin rfl rfl rfl (.some rfl rfl rfl hc4) rfl ?_
   refine JL.pick_f (b := (!y2)) rfl hc4 .none rfl ?_
   exact hJ3 _ (or_f hc4 rfl)
 ·rintro f hf13
  refine (JL.norm (i := 13) hf13 ?_)
  refine JL.assign .none rfl ?_
  refine JL.done hQ (JQ.go (JC.ret ?_))
  obtain rfl := Option.some.inj hF
  exact JQ.outS rfl (.tmp .nil) rfl
-- 138 ferrule/gusts.Check$2
def F_gusts_Check_2 (n : Nat) (n_ : Int) : Option Bool :=
 (F_gusts_within n n_ 0 99).bind fun y1 => some (!y1)
theorem c_gusts_Check_2 (n : Nat) (H : Hp) (n_ : Int) (y : Bool) (hF : F_gusts_Check_2 n n_ = some y) : SC Try.prog 138 [.int .i64 n_] (.bool y) H := by
 rw [F_gusts_Check_2] at hF
 refine SC.of (N := 6) Try.func138 rfl rfl rfl fun w => ?_
 refine JC.seq (JC.region (by rfl) ?_)
 intro hQ
 refine JL.assign .none rfl ?_
 refine JL.done hQ (JQ.go (JC.seq (JC.region (by rfl) ?_)))
 intro hQ
 refine JL.move .none rfl ?_
 obtain ⟨y1, hy1, hF⟩ := bind_some hF
 refine JL.callS (c_gusts_within n H n_ 0 99 y1 hy1) rfl en_137 .none rfl ?_
 refine JL.not rfl .none rfl ?_
 refine JL.assign .none rfl ?_
 refine JL.done hQ (JQ.go (JC.ret ?_))
 obtain rfl := Option.some.inj hF
 exact JQ.outS rfl (.tmp .nil) rfl
-- 124 ferrule/frames.within
def F_frames_within (n : Nat) (n_ : Int) (low : Int) (high : Int) : Option Bool :=
 some ((decide (low ≤ n_)) && (decide (n_ ≤ high)))
theorem c_frames_within (n : Nat) (H : Hp) (n_ : Int) (low : Int) (high : Int) (y : Bool) (hF : F_frames_within n n_ low high = some y) : SC Try.prog 124 [.int .i64 n_, .int .i64 low, .int .i64 high] (.bool y) H := by
 rw [F_frames_within] at hF
 refine SC.of (N := 15) Try.func124 rfl rfl rfl fun w => ?_
 refine JC.seq (JC.region (by rfl) ?_)
 intro hQ
 refine JL.assign .none rfl ?_
 refine JL.done hQ (JQ.go (JC.seq (JC.region (by rfl) ?_)))
 intro hQ
 refine JL.move .none rfl ?_
 refine JL.move .none rfl ?_
 refine JL.bin rfl rfl rfl .none rfl ?_
 refine JL.move .none rfl ?_
 refine JL.cut 4 (fun f => f 14 = .bool ((decide (low ≤ n_)) && (decide (n_ ≤ high)))) ?_ ?_
 ·intro hJ1
  rcases bcases (decide (low ≤ n_)) with hc2 | hc2
  ·skip
   refine JL.move (.some rfl rfl rfl hc2) rfl ?_
   refine JL.move (.some rfl rfl rfl hc2) rfl ?_
   refine JL.bin rfl rfl rfl (.some rfl rfl rfl hc2) rfl ?_
   refine JL.pick_t (b := decide (low ≤ n_)) rfl hc2 .none rfl ?_
   exact hJ1 _ (and_t hc2 rfl)
  ·skip
   refine JL.skip (.bool rfl rfl rfl hc2) rfl ?_
   refine JL.skip (.bool rfl rfl rfl hc2) rfl ?_
   refine JL.skip (.bool rfl rfl rfl hc2) rfl ?_
   refine JL.pick_f (b := decide (low ≤ n_)) rfl hc2 .none rfl ?_
   exact hJ1 _ (and_f hc2 rfl)
 ·rintro f hf14
  refine (JL.norm (i := 14) hf14 ?_)
  refine JL.assign .none rfl ?_
  refine JL.done hQ (JQ.go (JC.ret ?_))
  obtain rfl := Option.some.inj hF
  exact JQ.outS rfl (.tmp .nil) rfl
-- 128 ferrule/frames.isPart
def F_frames_isPart (n : Nat) (s : Span) : Option Bool :=
 (F_frames_within n s.Low 1 s.High).bind fun y2 => some ((y2 && (decide (s.High ≤ 2000))) && (decide ((w64 (s.High - s.Low)) ≤ 6)))
theorem c_frames_isPart (n : Nat) (H : Hp) (s : Span) (y : Bool) (hF : F_frames_isPart n s = some y) : SC Try.prog 128 [.agg [.int .i64 s.Low, .int .i64 s.High].toArray] (.bool y) H := by
 rw [F_frames_isPart] at hF
 refine SC.of (N := 21) Try.func128 rfl rfl rfl fun w => ?_
 refine JC.seq (JC.region (by rfl) ?_)
 intro hQ
 refine JL.box (cs := [.int .i64 s.Low, .int .i64 s.High]) rfl .none rfl ?_
 intro b1
 refine JL.assign .none rfl ?_
 refine JL.done hQ (JQ.go (JC.seq (JC.region (by rfl) ?_)))
 intro hQ
 refine JL.fieldAddr fo_39_0 rfl .none rfl ?_
 refine JL.loadOwn 0 az_3 rfl rfl rfl .none rfl ?_
 refine JL.fieldAddr fo_39_1 rfl .none rfl ?_
 refine JL.loadOwn 0 az_3 rfl rfl rfl .none rfl ?_
 obtain ⟨y2, hy2, hF⟩ := bind_some hF
 refine JL.callS (c_frames_within n H s.Low 1 s.High y2 hy2) rfl en_124 .none rfl ?_
 refine JL.move .none rfl ?_
 refine JL.cut 4 (fun f => f 1 = .pointer (some ⟨b1, 0, none⟩) ∧ f 12 = .bool (y2 && (decide (s.High ≤ 2000)))) ?_ ?_
 ·intro hJ3
  rcases bcases y2 with hc4 | hc4
  ·skip
   refine JL.fieldAddr fo_39_1 rfl (.some rfl rfl rfl hc4) rfl ?_
   refine JL.loadOwn 0 az_3 rfl rfl rfl (.some rfl rfl rfl hc4) rfl ?_
   refine JL.bin rfl rfl rfl (.some rfl rfl rfl hc4) rfl ?_
   refine JL.pick_t (b := y2) rfl hc4 .none rfl ?_
   exact hJ3 _ ⟨rfl, and_t hc4 rfl⟩
  ·skip
   refine JL.skip (.bool rfl rfl rfl hc4) rfl ?_
   refine JL.skip (.bool rfl rfl rfl hc4) rfl ?_
   refine JL.skip (.bool rfl rfl rfl hc4) rfl ?_
   refine JL.pick_f (b := y2) rfl hc4 .none rfl ?_
   exact hJ3 _ ⟨rfl, and_f hc4 rfl⟩
 ·rintro f ⟨hf1, hf12⟩
  refine (JL.norm (i := 1) hf1 (JL.norm (i := 12) hf12 ?_))
  refine JL.move .none rfl ?_
  refine JL.cut 7 (fun f => f 20 = .bool ((y2 && (decide (s.High ≤ 2000))) && (decide ((w64 (s.High - s.Low)) ≤ 6)))) ?_ ?_
  ·intro hJ5
   rcases bcases (y2 && (decide (s.High ≤ 2000))) with hc6 | hc6
   ·skip
    refine JL.fieldAddr fo_39_1 rfl (.some rfl rfl rfl hc6) rfl ?_
    refine JL.loadOwn 0 az_3 rfl rfl rfl (.some rfl rfl rfl hc6) rfl ?_
    refine JL.fieldAddr fo_39_0 rfl (.some rfl rfl rfl hc6) rfl ?_
    refine JL.loadOwn 0 az_3 rfl rfl rfl (.some rfl rfl rfl hc6) rfl ?_
    refine JL.bin rfl rfl rfl (.some rfl rfl rfl hc6) rfl ?_
    refine JL.bin rfl rfl rfl (.some rfl rfl rfl hc6) rfl ?_
    refine JL.pick_t (b := (y2 && (decide (s.High ≤ 2000)))) rfl hc6 .none rfl ?_
    exact hJ5 _ (and_t hc6 rfl)
   ·skip
    refine JL.skip (.bool rfl rfl rfl hc6) rfl ?_
    refine JL.skip (.bool rfl rfl rfl hc6) rfl ?_
    refine JL.skip (.bool rfl rfl rfl hc6) rfl ?_
    refine JL.skip (.bool rfl rfl rfl hc6) rfl ?_
    refine JL.skip (.bool rfl rfl rfl hc6) rfl ?_
    refine JL.skip (.bool rfl rfl rfl hc6) rfl ?_
    refine JL.pick_f (b := (y2 && (decide (s.High ≤ 2000)))) rfl hc6 .none rfl ?_
    exact hJ5 _ (and_f hc6 rfl)
  ·rintro f hf20
   refine (JL.norm (i := 20) hf20 ?_)
   refine JL.assign .none rfl ?_
   refine JL.done hQ (JQ.go (JC.ret ?_))
   obtain rfl := Option.some.inj hF
   exact JQ.outS rfl (.tmp .nil) rfl
-- 129 ferrule/frames.isShare
def F_frames_isShare (n : Nat) (f_ : Frac) : Option Bool :=
 (F_frames_within n f_.Den 1 20).bind fun y2 => (if y2 = true then ((F_frames_within n f_.Num 0 f_.Den).bind fun y7 => some y7) else (some false) : Option Bool).bind fun p4 => some p4
theorem c_frames_isShare (n : Nat) (H : Hp) (f_ : Frac) (y : Bool) (hF : F_frames_isShare n f_ = some y) : SC Try.prog 129 [.agg [.int .i64 f_.Num, .int .i64 f_.Den].toArray] (.bool y) H := by
 rw [F_frames_isShare] at hF
 refine SC.of (N := 13) Try.func129 rfl rfl rfl fun w => ?_
 refine JC.seq (JC.region (by rfl) ?_)
 intro hQ
 refine JL.box (cs := [.int .i64 f_.Num, .int .i64 f_.Den]) rfl .none rfl ?_
 intro b1
 refine JL.assign .none rfl ?_
 refine JL.done hQ (JQ.go (JC.seq (JC.region (by rfl) ?_)))
 intro hQ
 refine JL.fieldAddr fo_51_1 rfl .none rfl ?_
 refine JL.loadOwn 0 az_3 rfl rfl rfl .none rfl ?_
 obtain ⟨y2, hy2, hF⟩ := bind_some hF
 refine JL.callS (c_frames_within n H f_.Den 1 20 y2 hy2) rfl en_124 .none rfl ?_
 refine JL.move .none rfl ?_
 obtain ⟨p4, hp4, hF⟩ := bind_some hF
 refine JL.cut 6 (fun f => f 12 = .bool p4) ?_ ?_
 ·intro hJ5
  rcases ite_some hp4 with ⟨hc6, hF⟩ | ⟨hc6, hF⟩
  ·skip
   refine JL.fieldAddr fo_51_0 rfl (.some rfl rfl rfl hc6) rfl ?_
   refine JL.loadOwn 0 az_3 rfl rfl rfl (.some rfl rfl rfl hc6) rfl ?_
   refine JL.fieldAddr fo_51_1 rfl (.some rfl rfl rfl hc6) rfl ?_
   refine JL.loadOwn 0 az_3 rfl rfl rfl (.some rfl rfl rfl hc6) rfl ?_
   obtain ⟨y7, hy7, hF⟩ := bind_some hF
   refine JL.callS (c_frames_within n H f_.Num 0 f_.Den y7 hy7) rfl en_124 (.some rfl rfl rfl hc6) rfl ?_
   refine JL.pick_t (b := y2) rfl hc6 .none rfl ?_
   obtain rfl := Option.some.inj hF
   exact hJ5 _ (rfl)
  ·skip
   refine JL.skip (.bool rfl rfl rfl hc6) rfl ?_
   refine JL.skip (.bool rfl rfl rfl hc6) rfl ?_
   refine JL.skip (.bool rfl rfl rfl hc6) rfl ?_
   refine JL.skip (.bool rfl rfl rfl hc6) rfl ?_
   refine JL.skip (.bool rfl rfl rfl hc6) rfl ?_
   refine JL.pick_f (b := y2) rfl hc6 .none rfl ?_
   obtain rfl := Option.some.inj hF
   exact hJ5 _ (rfl)
 ·rintro f hf12
  refine (JL.norm (i := 12) hf12 ?_)
  refine JL.assign .none rfl ?_
  refine JL.done hQ (JQ.go (JC.ret ?_))
  obtain rfl := Option.some.inj hF
  exact JQ.outS rfl (.tmp .nil) rfl
-- 127 ferrule/frames.Check$1
def F_frames_Check_1 (n : Nat) (s : Section) : Option Bool :=
 (F_frames_isPart n s.Arm).bind fun y2 => (if (!y2) = true then (some true) else ((F_frames_isPart n s.Stretch).bind fun y7 => some (!y7)) : Option Bool).bind fun p4 => (if p4 = true then (some true) else ((F_frames_within n s.Base 0 2000).bind fun y12 => some (!y12)) : Option Bool).bind fun p9 => (if p9 = true then (some true) else ((F_frames_isShare n s.Gear).bind fun y17 => some (!y17)) : Option Bool).bind fun p14 => some p14
theorem c_frames_Check_1 (n : Nat) (H : Hp) (s : Section) (y : Bool) (hF : F_frames_Check_1 n s = some y) : SC Try.prog 127 [.agg [.int .i64 s.Arm.Low, .int .i64 s.Arm.High, .int .i64 s.Stretch.Low, .int .i64 s.Stretch.High, .int .i64 s.Base, .int .i64 s.Gear.Num, .int .i64 s.Gear.Den].toArray] (.bool y) H := by
 rw [F_frames_Check_1] at hF
 refine SC.of (N := 25) Try.func127 rfl rfl rfl fun w => ?_
 refine JC.seq (JC.region (by rfl) ?_)
 intro hQ
 refine JL.box (cs := [.int .i64 s.Arm.Low, .int .i64 s.Arm.High, .int .i64 s.Stretch.Low, .int .i64 s.Stretch.High, .int .i64 s.Base, .int .i64 s.Gear.Num, .int .i64 s.Gear.Den]) rfl .none rfl ?_
 intro b1
 refine JL.assign .none rfl ?_
 refine JL.done hQ (JQ.go (JC.seq (JC.region (by rfl) ?_)))
 intro hQ
 refine JL.fieldAddr fo_68_0 rfl .none rfl ?_
 refine JL.loadOwn 0 az_39 rfl rfl rfl .none rfl ?_
 obtain ⟨y2, hy2, hF⟩ := bind_some hF
 refine JL.callS (c_frames_isPart n H s.Arm y2 hy2) rfl en_128 .none rfl ?_
 refine JL.not rfl .none rfl ?_
 refine JL.move .none rfl ?_
 obtain ⟨p4, hp4, hF⟩ := bind_some hF
 refine JL.cut 5 (fun f => f 1 = .pointer (some ⟨b1, 0, none⟩) ∧ f 12 = .bool p4) ?_ ?_
 ·intro hJ5
  rcases ite_some hp4 with ⟨hc6, hF⟩ | ⟨hc6, hF⟩
  ·skip
   refine JL.skip (.bool rfl rfl rfl hc6) rfl ?_
   refine JL.skip (.bool rfl rfl rfl hc6) rfl ?_
   refine JL.skip (.bool rfl rfl rfl hc6) rfl ?_
   refine JL.skip (.bool rfl rfl rfl hc6) rfl ?_
   refine JL.pick_t (b := (!y2)) rfl hc6 .none rfl ?_
   obtain rfl := Option.some.inj hF
   exact hJ5 _ ⟨rfl, rfl⟩
  ·skip
   refine JL.fieldAddr fo_68_1 rfl (.some rfl rfl rfl hc6) rfl ?_
   refine JL.loadOwn 0 az_39 rfl rfl rfl (.some rfl rfl rfl hc6) rfl ?_
   obtain ⟨y7, hy7, hF⟩ := bind_some hF
   refine JL.callS (c_frames_isPart n H s.Stretch y7 hy7) rfl en_128 (.some rfl rfl rfl hc6) rfl ?_
   refine JL.not rfl (.some rfl rfl rfl hc6) rfl ?_
   refine JL.pick_f (b := (!y2)) rfl hc6 .none rfl ?_
   obtain rfl := Option.some.inj hF
   exact hJ5 _ ⟨rfl, rfl⟩
 ·rintro f ⟨hf1, hf12⟩
  refine (JL.norm (i := 1) hf1 (JL.norm (i := 12) hf12 ?_))
  refine JL.move .none rfl ?_
  obtain ⟨p9, hp9, hF⟩ := bind_some hF
  refine JL.cut 5 (fun f => f 1 = .pointer (some ⟨b1, 0, none⟩) ∧ f 18 = .bool p9) ?_ ?_
  ·intro hJ10
   rcases ite_some hp9 with ⟨hc11, hF⟩ | ⟨hc11, hF⟩
   ·skip
    refine JL.skip (.bool rfl rfl rfl hc11) rfl ?_
    refine JL.skip (.bool rfl rfl rfl hc11) rfl ?_
    refine JL.skip (.bool rfl rfl rfl hc11) rfl ?_
    refine JL.skip (.bool rfl rfl rfl hc11) rfl ?_
    refine JL.pick_t (b := p4) rfl hc11 .none rfl ?_
    obtain rfl := Option.some.inj hF
    exact hJ10 _ ⟨rfl, rfl⟩
   ·skip
    refine JL.fieldAddr fo_68_2 rfl (.some rfl rfl rfl hc11) rfl ?_
    refine JL.loadOwn 0 az_3 rfl rfl rfl (.some rfl rfl rfl hc11) rfl ?_
    obtain ⟨y12, hy12, hF⟩ := bind_some hF
    refine JL.callS (c_frames_within n H s.Base 0 2000 y12 hy12) rfl en_124 (.some rfl rfl rfl hc11) rfl ?_
    refine JL.not rfl (.some rfl rfl rfl hc11) rfl ?_
    refine JL.pick_f (b := p4) rfl hc11 .none rfl ?_
    obtain rfl := Option.some.inj hF
    exact hJ10 _ ⟨rfl, rfl⟩
  ·rintro f ⟨hf1, hf18⟩
   refine (JL.norm (i := 1) hf1 (JL.norm (i := 18) hf18 ?_))
   refine JL.move .none rfl ?_
   obtain ⟨p14, hp14, hF⟩ := bind_some hF
   refine JL.cut 5 (fun f => f 24 = .bool p14) ?_ ?_
   ·intro hJ15
    rcases ite_some hp14 with ⟨hc16, hF⟩ | ⟨hc16, hF⟩
    ·skip
     refine JL.skip (.bool rfl rfl rfl hc16) rfl ?_
     refine JL.skip (.bool rfl rfl rfl hc16) rfl ?_
     refine JL.skip (.bool rfl rfl rfl hc16) rfl ?_
     refine JL.skip (.bool rfl rfl rfl hc16) rfl ?_
     refine JL.pick_t (b := p9) rfl hc16 .none rfl ?_
     obtain rfl := Option.some.inj hF
     exact hJ15 _ (rfl)
    ·skip
     refine JL.fieldAddr fo_68_3 rfl (.some rfl rfl rfl hc16) rfl ?_
     refine JL.loadOwn 0 az_51 rfl rfl rfl (.some rfl rfl rfl hc16) rfl ?_
     obtain ⟨y17, hy17, hF⟩ := bind_some hF
     refine JL.callS (c_frames_isShare n H s.Gear y17 hy17) rfl en_129 (.some rfl rfl rfl hc16) rfl ?_
     refine JL.not rfl (.some rfl rfl rfl hc16) rfl ?_
     refine JL.pick_f (b := p9) rfl hc16 .none rfl ?_
     obtain rfl := Option.some.inj hF
     exact hJ15 _ (rfl)
   ·rintro f hf24
    refine (JL.norm (i := 24) hf24 ?_)
    refine JL.assign .none rfl ?_
    refine JL.done hQ (JQ.go (JC.ret ?_))
    obtain rfl := Option.some.inj hF
    exact JQ.outS rfl (.tmp .nil) rfl
-- 175 slices.IndexFunc[[]ferrule/api.Section,ferrule/api.Section]
def F_slices_IndexFunc___api_Section_api_Section__s1 (n : Nat) (s : List Section) (f_ : Section → Option Bool) : Int → Option (Int ⊕ (Int ⊕ Unit))
 | x_55 => if decide (x_55 < (s.length : Int)) = true then ((geti s x_55).bind fun y60 => (f_ y60).bind fun y65 => if y65 = true then (some (Sum.inr (Sum.inl x_55))) else (some (Sum.inl (w64 (x_55 + 1))))) else (some (Sum.inr (Sum.inr ())))
def F_slices_IndexFunc___api_Section_api_Section_ (n : Nat) (s : List Section) (f_ : Section → Option Bool) : Option Int :=
 (loopO n (F_slices_IndexFunc___api_Section_api_Section__s1 n s f_) 0).bind fun r34 => match r34 with | .inl o => some o | .inr _ => some (-1)
theorem c_slices_IndexFunc___api_Section_api_Section_ (n : Nat) (H : Hp) (s : List Section) (s_v0 : Value) (hs_0 : SL H 7 R_Section s_v0 s) (f_ : Section → Option Bool) (f__k : Nat) (f__c : List Value) (f__e : Ent Try.prog f__k) (f__h : ∀ H', HSub H H' → ∀ (a0_ : Section) (y : Bool), f_ a0_ = some y → SC Try.prog f__k ([.agg [.int .i64 a0_.Arm.Low, .int .i64 a0_.Arm.High, .int .i64 a0_.Stretch.Low, .int .i64 a0_.Stretch.High, .int .i64 a0_.Base, .int .i64 a0_.Gear.Num, .int .i64 a0_.Gear.Den].toArray] ++ f__c) (.bool y) H') (y : Int) (hF : F_slices_IndexFunc___api_Section_api_Section_ n s f_ = some y) : SC Try.prog 175 [s_v0, .func (.func f__k) #[] f__c.toArray] (.int .i64 y) H := by
 rw [F_slices_IndexFunc___api_Section_api_Section_] at hF
 refine SC.of (N := 19) Try.func175 rfl rfl rfl fun w => ?_
 refine JC.seq (JC.region (by rfl) ?_)
 intro hQ
 refine JL.assign .none rfl ?_
 refine JL.done hQ (JQ.go (JC.seq (JC.seq (JC.region (by rfl) ?_))))
 intro hQ
 refine JL.move .none rfl ?_
 refine JL.lenSL (R := R_Section) ul_49 hs_0 .none rfl ?_
 refine JL.move .none rfl ?_
 refine JL.done hQ (JQ.go ?_)
 obtain ⟨r34, hlr34, hKr34⟩ := bind_some hF
 refine JC.join (fun (_ : Unit) H33 f bs gs => bs = [] ∧ gs = [] ∧ HSub H H33 ∧ Sum.inr () = r34) ?_ ?_
 ·skip
  refine JC.block (JC.loop hlr34 (fun (x_55 : Int) H56 f bs gs => f 0 = s_v0 ∧ f 1 = .func (.func f__k) #[] f__c.toArray ∧ f 7 = .int .i64 (s.length : Int) ∧ f 8 = .int .i64 x_55 ∧ bs = [] ∧ gs = [] ∧ HSub H H56) ⟨rfl, rfl, rfl, rfl, rfl, rfl, (HSub.refl _)⟩ ?_)
  rintro x_55 x58 H56 f bs gs ⟨hf0, hf1, hf7, hf8, rfl, rfl, hs56⟩ hF hr57
  rw [F_slices_IndexFunc___api_Section_api_Section__s1] at hF
  refine (JC.norm (i := 0) hf0 (JC.norm (i := 1) hf1 (JC.norm (i := 7) hf7 (JC.norm (i := 8) hf8 ?_))))
  refine JC.seq (JC.region (by rfl) ?_)
  intro hQ
  refine JL.bin rfl rfl rfl .none rfl ?_
  refine JL.done hQ (JQ.go (JC.seq ?_))
  rcases ite_some hF with ⟨hc59, hF⟩ | ⟨hc59, hF⟩
  ·refine JC.cond_t (b := decide (x_55 < (s.length : Int))) rfl hc59 ?_
   refine JC.skip (JQ.go (JC.seq (JC.block (JC.seq (JC.region (by rfl) ?_)))))
   intro hQ
   refine JL.move .none rfl ?_
   refine JL.assign .none rfl ?_
   refine JL.done hQ (JQ.go (JC.seq (JC.region (by rfl) ?_)))
   intro hQ
   refine JL.move .none rfl ?_
   refine JL.move .none rfl ?_
   refine JL.move .none rfl ?_
   obtain ⟨y60, hy60, hF⟩ := bind_some hF
   refine JL.indexSL (R := R_Section) sl_49 (SL.mono R_Section_mono hs56 hs_0) rfl hy60 .none rfl ?_
   rintro b61 o62 cs63 hc64 - rfl
   refine JL.loadH 0 az_68 rfl hc64 rfl .none rfl ?_
   obtain ⟨y65, hy65, hF⟩ := bind_some hF
   refine JL.callV rfl (f__h H56 hs56 y60 y65 hy65) rfl f__e .none rfl ?_
   refine JL.done hQ (JQ.go ?_)
   rcases ite_some hF with ⟨hc66, hF⟩ | ⟨hc66, hF⟩
   ·refine JC.cond_t (b := y65) rfl hc66 ?_
    refine JC.seq (JC.region (by rfl) ?_)
    intro hQ
    refine JL.move .none rfl ?_
    refine JL.assign .none rfl ?_
    refine JL.done hQ (JQ.go (JC.fresh (fun f => f 4 = .int .i64 x_55) rfl ?_))
    rintro f hf4
    refine (JC.norm (i := 4) hf4 ?_)
    refine JC.ret (JQ.ret_block (JQ.ret_then (JQ.ret_then (JQ.ret_block (JQ.ret_join (JQ.ret_then ?_))))))
    obtain rfl := Option.some.inj hF
    have ehr57 := hr57 _ rfl
    subst ehr57
    have hF := hKr34
    try dsimp only at hF
    obtain rfl := Option.some.inj hF
    exact JQ.outS rfl (.tmp .nil) rfl
   ·refine JC.cond_f (b := y65) rfl hc66 ?_
    refine JC.skip (JQ.normal_block (JQ.go (JC.region (by rfl) ?_)))
    intro hQ
    refine JL.bin rfl rfl rfl .none rfl ?_
    refine JL.move .none rfl ?_
    refine JL.done hQ ?_
    obtain rfl := Option.some.inj hF
    exact JQ.next rfl ⟨rfl, rfl, rfl, rfl, rfl, rfl, hs56⟩
  ·refine JC.cond_f (b := decide (x_55 < (s.length : Int))) rfl hc59 ?_
   refine JC.exit (JQ.exit_then (JQ.exit_then (JQ.exit_block ?_)))
   obtain rfl := Option.some.inj hF
   have ehr57 := hr57 _ rfl
   subst ehr57
   exact JQ.join () ⟨rfl, rfl, hs56, rfl⟩
 ·rintro _ H33 f bs gs ⟨rfl, rfl, hs33, rfl⟩
  have hF := hKr34
  try dsimp only at hF
  refine JQ.go (JC.seq (JC.region (by rfl) ?_))
  intro hQ
  refine JL.assign .none rfl ?_
  refine JL.done hQ (JQ.go (JC.ret ?_))
  obtain rfl := Option.some.inj hF
  exact JQ.outS rfl (.tmp .nil) rfl
-- 130 slices.ContainsFunc[[]ferrule/api.Section,ferrule/api.Section]
def F_slices_ContainsFunc___api_Section_api_Section_ (n : Nat) (s : List Section) (f_ : Section → Option Bool) : Option Bool :=
 (F_slices_IndexFunc___api_Section_api_Section_ n s f_).bind fun y1 => some (decide (0 ≤ y1))
theorem c_slices_ContainsFunc___api_Section_api_Section_ (n : Nat) (H : Hp) (s : List Section) (s_v0 : Value) (hs_0 : SL H 7 R_Section s_v0 s) (f_ : Section → Option Bool) (f__k : Nat) (f__c : List Value) (f__e : Ent Try.prog f__k) (f__h : ∀ H', HSub H H' → ∀ (a0_ : Section) (y : Bool), f_ a0_ = some y → SC Try.prog f__k ([.agg [.int .i64 a0_.Arm.Low, .int .i64 a0_.Arm.High, .int .i64 a0_.Stretch.Low, .int .i64 a0_.Stretch.High, .int .i64 a0_.Base, .int .i64 a0_.Gear.Num, .int .i64 a0_.Gear.Den].toArray] ++ f__c) (.bool y) H') (y : Bool) (hF : F_slices_ContainsFunc___api_Section_api_Section_ n s f_ = some y) : SC Try.prog 130 [s_v0, .func (.func f__k) #[] f__c.toArray] (.bool y) H := by
 rw [F_slices_ContainsFunc___api_Section_api_Section_] at hF
 refine SC.of (N := 9) Try.func130 rfl rfl rfl fun w => ?_
 refine JC.seq (JC.region (by rfl) ?_)
 intro hQ
 refine JL.assign .none rfl ?_
 refine JL.done hQ (JQ.go (JC.seq (JC.region (by rfl) ?_)))
 intro hQ
 refine JL.move .none rfl ?_
 refine JL.move .none rfl ?_
 obtain ⟨y1, hy1, hF⟩ := bind_some hF
 refine JL.callS (c_slices_IndexFunc___api_Section_api_Section_ n H s s_v0 hs_0 f_ f__k f__c f__e (fun H' hs' => f__h H' hs') y1 hy1) rfl en_175 .none rfl ?_
 refine JL.bin rfl rfl rfl .none rfl ?_
 refine JL.assign .none rfl ?_
 refine JL.done hQ (JQ.go (JC.ret ?_))
 obtain rfl := Option.some.inj hF
 exact JQ.outS rfl (.tmp .nil) rfl
-- 79 ferrule/frames.Check
def F_frames_Check (n : Nat) (f_ : Frame) : Option Int :=
 (F_frames_within n f_.Low 1 f_.High).bind fun y2 => (F_frames_within n (f_.Sections.length : Int) 1 3).bind fun y7 => (if (!y7) = true then (some true) else ((F_slices_ContainsFunc___api_Section_api_Section_ n f_.Sections (fun a0_ => F_frames_Check_1 n a0_)).bind fun y12 => some y12) : Option Bool).bind fun p9 => (if (p9 || (!((y2 && (decide (f_.High ≤ 2000))) && (decide ((w64 (f_.High - f_.Low)) ≤ 200))))) = true then (some true) else ((F_frames_isShare n f_.Ease).bind fun y19 => some (!y19)) : Option Bool).bind fun p16 => (if p16 = true then (some true) else ((F_frames_within n f_.Rod 0 4000).bind fun y24 => some (!y24)) : Option Bool).bind fun p21 => (if p21 = true then (some true) else ((F_frames_within n f_.Case 0 4000).bind fun y29 => some (!y29)) : Option Bool).bind fun p26 => if p26 = true then (some 10) else (some 0)
theorem c_frames_Check (n : Nat) (H : Hp) (f_ : Frame) (f__v0 : Value) (hf__0 : SL H 7 R_Section f__v0 f_.Sections) (y : Int) (hF : F_frames_Check n f_ = some y) : SC Try.prog 79 [.agg [f__v0, .int .i64 f_.Low, .int .i64 f_.High, .int .i64 f_.Ease.Num, .int .i64 f_.Ease.Den, .int .i64 f_.Rod, .int .i64 f_.Case].toArray] (.int .i64 y) H := by
 rw [F_frames_Check] at hF
 refine SC.of (N := 56) Try.func79 rfl rfl rfl fun w => ?_
 refine JC.seq (JC.region (by rfl) ?_)
 intro hQ
 refine JL.box (cs := [f__v0, .int .i64 f_.Low, .int .i64 f_.High, .int .i64 f_.Ease.Num, .int .i64 f_.Ease.Den, .int .i64 f_.Rod, .int .i64 f_.Case]) rfl .none rfl ?_
 intro b1
 refine JL.assign .none rfl ?_
 refine JL.done hQ (JQ.go (JC.seq (JC.region (by rfl) ?_)))
 intro hQ
 refine JL.assign .none rfl ?_
 refine JL.done hQ (JQ.go (JC.seq (JC.region (by rfl) ?_)))
 intro hQ
 refine JL.fieldAddr fo_53_1 rfl .none rfl ?_
 refine JL.loadOwn 0 az_3 rfl rfl rfl .none rfl ?_
 refine JL.fieldAddr fo_53_2 rfl .none rfl ?_
 refine JL.loadOwn 0 az_3 rfl rfl rfl .none rfl ?_
 obtain ⟨y2, hy2, hF⟩ := bind_some hF
 refine JL.callS (c_frames_within n H f_.Low 1 f_.High y2 hy2) rfl en_124 .none rfl ?_
 refine JL.move .none rfl ?_
 refine JL.cut 4 (fun f => f 1 = .pointer (some ⟨b1, 0, none⟩) ∧ f 3 = .func (.func 127) #[] [].toArray ∧ f 14 = .bool (y2 && (decide (f_.High ≤ 2000)))) ?_ ?_
 ·intro hJ3
  rcases bcases y2 with hc4 | hc4
  ·skip
   refine JL.fieldAddr fo_53_2 rfl (.some rfl rfl rfl hc4) rfl ?_
   refine JL.loadOwn 0 az_3 rfl rfl rfl (.some rfl rfl rfl hc4) rfl ?_
   refine JL.bin rfl rfl rfl (.some rfl rfl rfl hc4) rfl ?_
   refine JL.pick_t (b := y2) rfl hc4 .none rfl ?_
   exact hJ3 _ ⟨rfl, rfl, and_t hc4 rfl⟩
  ·skip
   refine JL.skip (.bool rfl rfl rfl hc4) rfl ?_
   refine JL.skip (.bool rfl rfl rfl hc4) rfl ?_
   refine JL.skip (.bool rfl rfl rfl hc4) rfl ?_
   refine JL.pick_f (b := y2) rfl hc4 .none rfl ?_
   exact hJ3 _ ⟨rfl, rfl, and_f hc4 rfl⟩
 ·rintro f ⟨hf1, hf3, hf14⟩
  refine (JL.norm (i := 1) hf1 (JL.norm (i := 3) hf3 (JL.norm (i := 14) hf14 ?_)))
  refine JL.move .none rfl ?_
  refine JL.cut 7 (fun f => f 1 = .pointer (some ⟨b1, 0, none⟩) ∧ f 3 = .func (.func 127) #[] [].toArray ∧ f 22 = .bool ((y2 && (decide (f_.High ≤ 2000))) && (decide ((w64 (f_.High - f_.Low)) ≤ 200)))) ?_ ?_
  ·intro hJ5
   rcases bcases (y2 && (decide (f_.High ≤ 2000))) with hc6 | hc6
   ·skip
    refine JL.fieldAddr fo_53_2 rfl (.some rfl rfl rfl hc6) rfl ?_
    refine JL.loadOwn 0 az_3 rfl rfl rfl (.some rfl rfl rfl hc6) rfl ?_
    refine JL.fieldAddr fo_53_1 rfl (.some rfl rfl rfl hc6) rfl ?_
    refine JL.loadOwn 0 az_3 rfl rfl rfl (.some rfl rfl rfl hc6) rfl ?_
    refine JL.bin rfl rfl rfl (.some rfl rfl rfl hc6) rfl ?_
    refine JL.bin rfl rfl rfl (.some rfl rfl rfl hc6) rfl ?_
    refine JL.pick_t (b := (y2 && (decide (f_.High ≤ 2000)))) rfl hc6 .none rfl ?_
    exact hJ5 _ ⟨rfl, rfl, and_t hc6 rfl⟩
   ·skip
    refine JL.skip (.bool rfl rfl rfl hc6) rfl ?_
    refine JL.skip (.bool rfl rfl rfl hc6) rfl ?_
    refine JL.skip (.bool rfl rfl rfl hc6) rfl ?_
    refine JL.skip (.bool rfl rfl rfl hc6) rfl ?_
    refine JL.skip (.bool rfl rfl rfl hc6) rfl ?_
    refine JL.skip (.bool rfl rfl rfl hc6) rfl ?_
    refine JL.pick_f (b := (y2 && (decide (f_.High ≤ 2000)))) rfl hc6 .none rfl ?_
    exact hJ5 _ ⟨rfl, rfl, and_f hc6 rfl⟩
  ·rintro f ⟨hf1, hf3, hf22⟩
   refine (JL.norm (i := 1) hf1 (JL.norm (i := 3) hf3 (JL.norm (i := 22) hf22 ?_)))
   refine JL.assign .none rfl ?_
   refine JL.done hQ (JQ.go (JC.seq (JC.seq (JC.region (by rfl) ?_))))
   intro hQ
   refine JL.fieldAddr fo_53_0 rfl .none rfl ?_
   refine JL.loadOwn 0 az_49 rfl rfl rfl .none rfl ?_
   refine JL.lenSL (R := R_Section) ul_49 hf__0 .none rfl ?_
   obtain ⟨y7, hy7, hF⟩ := bind_some hF
   refine JL.callS (c_frames_within n H (f_.Sections.length : Int) 1 3 y7 hy7) rfl en_124 .none rfl ?_
   refine JL.not rfl .none rfl ?_
   refine JL.move .none rfl ?_
   obtain ⟨p9, hp9, hF⟩ := bind_some hF
   refine JL.cut 5 (fun f => f 1 = .pointer (some ⟨b1, 0, none⟩) ∧ f 4 = .bool ((y2 && (decide (f_.High ≤ 2000))) && (decide ((w64 (f_.High - f_.Low)) ≤ 200))) ∧ f 33 = .bool p9) ?_ ?_
   ·intro hJ10
    rcases ite_some hp9 with ⟨hc11, hF⟩ | ⟨hc11, hF⟩
    ·skip
     refine JL.skip (.bool rfl rfl rfl hc11) rfl ?_
     refine JL.skip (.bool rfl rfl rfl hc11) rfl ?_
     refine JL.skip (.bool rfl rfl rfl hc11) rfl ?_
     refine JL.skip (.bool rfl rfl rfl hc11) rfl ?_
     refine JL.pick_t (b := (!y7)) rfl hc11 .none rfl ?_
     obtain rfl := Option.some.inj hF
     exact hJ10 _ ⟨rfl, rfl, rfl⟩
    ·skip
     refine JL.fieldAddr fo_53_0 rfl (.some rfl rfl rfl hc11) rfl ?_
     refine JL.loadOwn 0 az_49 rfl rfl rfl (.some rfl rfl rfl hc11) rfl ?_
     refine JL.move (.some rfl rfl rfl hc11) rfl ?_
     obtain ⟨y12, hy12, hF⟩ := bind_some hF
     refine JL.callS (c_slices_ContainsFunc___api_Section_api_Section_ n H f_.Sections f__v0 hf__0 (fun a0_ => F_frames_Check_1 n a0_) 127 [] en_127 (fun H' hs' a0_ y' hy' => c_frames_Check_1 n H' a0_ y' hy') y12 hy12) rfl en_130 (.some rfl rfl rfl hc11) rfl ?_
     refine JL.pick_f (b := (!y7)) rfl hc11 .none rfl ?_
     obtain rfl := Option.some.inj hF
     exact hJ10 _ ⟨rfl, rfl, rfl⟩
   ·rintro f ⟨hf1, hf4, hf33⟩
    refine (JL.norm (i := 1) hf1 (JL.norm (i := 4) hf4 (JL.norm (i := 33) hf33 ?_)))
    refine JL.move .none rfl ?_
    refine JL.cut 3 (fun f => f 1 = .pointer (some ⟨b1, 0, none⟩) ∧ f 37 = .bool (p9 || (!((y2 && (decide (f_.High ≤ 2000))) && (decide ((w64 (f_.High - f_.Low)) ≤ 200)))))) ?_ ?_
    ·intro hJ13
     rcases bcases p9 with hc14 | hc14
     ·skip
      refine JL.skip (.bool rfl rfl rfl hc14) rfl ?_
      refine JL.skip (.bool rfl rfl rfl hc14) rfl ?_
      refine JL.pick_t (b := p9) rfl hc14 .none rfl ?_
      exact hJ13 _ ⟨rfl, or_t hc14 rfl⟩
     ·skip
      refine JL.move (.some rfl rfl rfl hc14) rfl ?_
      refine JL.not rfl (.some rfl rfl rfl hc14) rfl ?_
      refine JL.pick_f (b := p9) rfl hc14 .none rfl ?_
      exact hJ13 _ ⟨rfl, or_f hc14 rfl⟩
    ·rintro f ⟨hf1, hf37⟩
     refine (JL.norm (i := 1) hf1 (JL.norm (i := 37) hf37 ?_))
     refine JL.move .none rfl ?_
     obtain ⟨p16, hp16, hF⟩ := bind_some hF
     refine JL.cut 5 (fun f => f 1 = .pointer (some ⟨b1, 0, none⟩) ∧ f 43 = .bool p16) ?_ ?_
     ·intro hJ17
      rcases ite_some hp16 with ⟨hc18, hF⟩ | ⟨hc18, hF⟩
      ·skip
       refine JL.skip (.bool rfl rfl rfl hc18) rfl ?_
       refine JL.skip (.bool rfl rfl rfl hc18) rfl ?_
       refine JL.skip (.bool rfl rfl rfl hc18) rfl ?_
       refine JL.skip (.bool rfl rfl rfl hc18) rfl ?_
       refine JL.pick_t (b := (p9 || (!((y2 && (decide (f_.High ≤ 2000))) && (decide ((w64 (f_.High - f_.Low)) ≤ 200)))))) rfl hc18 .none rfl ?_
       obtain rfl := Option.some.inj hF
       exact hJ17 _ ⟨rfl, rfl⟩
      ·skip
       refine JL.fieldAddr fo_53_3 rfl (.some rfl rfl rfl hc18) rfl ?_
       refine JL.loadOwn 0 az_51 rfl rfl rfl (.some rfl rfl rfl hc18) rfl ?_
       obtain ⟨y19, hy19, hF⟩ := bind_some hF
       refine JL.callS (c_frames_isShare n H f_.Ease y19 hy19) rfl en_129 (.some rfl rfl rfl hc18) rfl ?_
       refine JL.not rfl (.some rfl rfl rfl hc18) rfl ?_
       refine JL.pick_f (b := (p9 || (!((y2 && (decide (f_.High ≤ 2000))) && (decide ((w64 (f_.High - f_.Low)) ≤ 200)))))) rfl hc18 .none rfl ?_
       obtain rfl := Option.some.inj hF
       exact hJ17 _ ⟨rfl, rfl⟩
     ·rintro f ⟨hf1, hf43⟩
      refine (JL.norm (i := 1) hf1 (JL.norm (i := 43) hf43 ?_))
      refine JL.move .none rfl ?_
      obtain ⟨p21, hp21, hF⟩ := bind_some hF
      refine JL.cut 5 (fun f => f 1 = .pointer (some ⟨b1, 0, none⟩) ∧ f 49 = .bool p21) ?_ ?_
      ·intro hJ22
       rcases ite_some hp21 with ⟨hc23, hF⟩ | ⟨hc23, hF⟩
       ·skip
        refine JL.skip (.bool rfl rfl rfl hc23) rfl ?_
        refine JL.skip (.bool rfl rfl rfl hc23) rfl ?_
        refine JL.skip (.bool rfl rfl rfl hc23) rfl ?_
        refine JL.skip (.bool rfl rfl rfl hc23) rfl ?_
        refine JL.pick_t (b := p16) rfl hc23 .none rfl ?_
        obtain rfl := Option.some.inj hF
        exact hJ22 _ ⟨rfl, rfl⟩
       ·skip
        refine JL.fieldAddr fo_53_4 rfl (.some rfl rfl rfl hc23) rfl ?_
        refine JL.loadOwn 0 az_3 rfl rfl rfl (.some rfl rfl rfl hc23) rfl ?_
        obtain ⟨y24, hy24, hF⟩ := bind_some hF
        refine JL.callS (c_frames_within n H f_.Rod 0 4000 y24 hy24) rfl en_124 (.some rfl rfl rfl hc23) rfl ?_
        refine JL.not rfl (.some rfl rfl rfl hc23) rfl ?_
        refine JL.pick_f (b := p16) rfl hc23 .none rfl ?_
        obtain rfl := Option.some.inj hF
        exact hJ22 _ ⟨rfl, rfl⟩
      ·rintro f ⟨hf1, hf49⟩
       refine (JL.norm (i := 1) hf1 (JL.norm (i := 49) hf49 ?_))
       refine JL.move .none rfl ?_
       obtain ⟨p26, hp26, hF⟩ := bind_some hF
       refine JL.cut 5 (fun f => f 55 = .bool p26) ?_ ?_
       ·intro hJ27
        rcases ite_some hp26 with ⟨hc28, hF⟩ | ⟨hc28, hF⟩
        ·skip
         refine JL.skip (.bool rfl rfl rfl hc28) rfl ?_
         refine JL.skip (.bool rfl rfl rfl hc28) rfl ?_
         refine JL.skip (.bool rfl rfl rfl hc28) rfl ?_
         refine JL.skip (.bool rfl rfl rfl hc28) rfl ?_
         refine JL.pick_t (b := p21) rfl hc28 .none rfl ?_
         obtain rfl := Option.some.inj hF
         exact hJ27 _ (rfl)
        ·skip
         refine JL.fieldAddr fo_53_5 rfl (.some rfl rfl rfl hc28) rfl ?_
         refine JL.loadOwn 0 az_3 rfl rfl rfl (.some rfl rfl rfl hc28) rfl ?_
         obtain ⟨y29, hy29, hF⟩ := bind_some hF
         refine JL.callS (c_frames_within n H f_.Case 0 4000 y29 hy29) rfl en_124 (.some rfl rfl rfl hc28) rfl ?_
         refine JL.not rfl (.some rfl rfl rfl hc28) rfl ?_
         refine JL.pick_f (b := p21) rfl hc28 .none rfl ?_
         obtain rfl := Option.some.inj hF
         exact hJ27 _ (rfl)
       ·rintro f hf55
        refine (JL.norm (i := 55) hf55 ?_)
        refine JL.done hQ (JQ.go ?_)
        rcases ite_some hF with ⟨hc30, hF⟩ | ⟨hc30, hF⟩
        ·refine JC.cond_t (b := p26) rfl hc30 ?_
         refine JC.seq (JC.region (by rfl) ?_)
         intro hQ
         refine JL.assign .none rfl ?_
         refine JL.done hQ (JQ.go (JC.ret (JQ.ret_then ?_)))
         obtain rfl := Option.some.inj hF
         exact JQ.outS rfl (.tmp .nil) rfl
        ·refine JC.cond_f (b := p26) rfl hc30 ?_
         refine JC.skip (JQ.go (JC.seq (JC.region (by rfl) ?_)))
         intro hQ
         refine JL.assign .none rfl ?_
         refine JL.done hQ (JQ.go (JC.ret ?_))
         obtain rfl := Option.some.inj hF
         exact JQ.outS rfl (.tmp .nil) rfl
-- 177 slices.IndexFunc[[]ferrule/api.Span,ferrule/api.Span]
def F_slices_IndexFunc___api_Span_api_Span__s1 (n : Nat) (s : List Span) (f_ : Span → Option Bool) : Int → Option (Int ⊕ (Int ⊕ Unit))
 | x_55 => if decide (x_55 < (s.length : Int)) = true then ((geti s x_55).bind fun y60 => (f_ y60).bind fun y65 => if y65 = true then (some (Sum.inr (Sum.inl x_55))) else (some (Sum.inl (w64 (x_55 + 1))))) else (some (Sum.inr (Sum.inr ())))
def F_slices_IndexFunc___api_Span_api_Span_ (n : Nat) (s : List Span) (f_ : Span → Option Bool) : Option Int :=
 (loopO n (F_slices_IndexFunc___api_Span_api_Span__s1 n s f_) 0).bind fun r34 => match r34 with | .inl o => some o | .inr _ => some (-1)
theorem c_slices_IndexFunc___api_Span_api_Span_ (n : Nat) (H : Hp) (s : List Span) (s_v0 : Value) (hs_0 : SL H 2 R_Span s_v0 s) (f_ : Span → Option Bool) (f__k : Nat) (f__c : List Value) (f__e : Ent Try.prog f__k) (f__h : ∀ H', HSub H H' → ∀ (a0_ : Span) (y : Bool), f_ a0_ = some y → SC Try.prog f__k ([.agg [.int .i64 a0_.Low, .int .i64 a0_.High].toArray] ++ f__c) (.bool y) H') (y : Int) (hF : F_slices_IndexFunc___api_Span_api_Span_ n s f_ = some y) : SC Try.prog 177 [s_v0, .func (.func f__k) #[] f__c.toArray] (.int .i64 y) H := by
 rw [F_slices_IndexFunc___api_Span_api_Span_] at hF
 refine SC.of (N := 19) Try.func177 rfl rfl rfl fun w => ?_
 refine JC.seq (JC.region (by rfl) ?_)
 intro hQ
 refine JL.assign .none rfl ?_
 refine JL.done hQ (JQ.go (JC.seq (JC.seq (JC.region (by rfl) ?_))))
 intro hQ
 refine JL.move .none rfl ?_
 refine JL.lenSL (R := R_Span) ul_24 hs_0 .none rfl ?_
 refine JL.move .none rfl ?_
 refine JL.done hQ (JQ.go ?_)
 obtain ⟨r34, hlr34, hKr34⟩ := bind_some hF
 refine JC.join (fun (_ : Unit) H33 f bs gs => bs = [] ∧ gs = [] ∧ HSub H H33 ∧ Sum.inr () = r34) ?_ ?_
 ·skip
  refine JC.block (JC.loop hlr34 (fun (x_55 : Int) H56 f bs gs => f 0 = s_v0 ∧ f 1 = .func (.func f__k) #[] f__c.toArray ∧ f 7 = .int .i64 (s.length : Int) ∧ f 8 = .int .i64 x_55 ∧ bs = [] ∧ gs = [] ∧ HSub H H56) ⟨rfl, rfl, rfl, rfl, rfl, rfl, (HSub.refl _)⟩ ?_)
  rintro x_55 x58 H56 f bs gs ⟨hf0, hf1, hf7, hf8, rfl, rfl, hs56⟩ hF hr57
  rw [F_slices_IndexFunc___api_Span_api_Span__s1] at hF
  refine (JC.norm (i := 0) hf0 (JC.norm (i := 1) hf1 (JC.norm (i := 7) hf7 (JC.norm (i := 8) hf8 ?_))))
  refine JC.seq (JC.region (by rfl) ?_)
  intro hQ
  refine JL.bin rfl rfl rfl .none rfl ?_
  refine JL.done hQ (JQ.go (JC.seq ?_))
  rcases ite_some hF with ⟨hc59, hF⟩ | ⟨hc59, hF⟩
  ·refine JC.cond_t (b := decide (x_55 < (s.length : Int))) rfl hc59 ?_
   refine JC.skip (JQ.go (JC.seq (JC.block (JC.seq (JC.region (by rfl) ?_)))))
   intro hQ
   refine JL.move .none rfl ?_
   refine JL.assign .none rfl ?_
   refine JL.done hQ (JQ.go (JC.seq (JC.region (by rfl) ?_)))
   intro hQ
   refine JL.move .none rfl ?_
   refine JL.move .none rfl ?_
   refine JL.move .none rfl ?_
   obtain ⟨y60, hy60, hF⟩ := bind_some hF
   refine JL.indexSL (R := R_Span) sl_24 (SL.mono R_Span_mono hs56 hs_0) rfl hy60 .none rfl ?_
   rintro b61 o62 cs63 hc64 - rfl
   refine JL.loadH 0 az_39 rfl hc64 rfl .none rfl ?_
   obtain ⟨y65, hy65, hF⟩ := bind_some hF
   refine JL.callV rfl (f__h H56 hs56 y60 y65 hy65) rfl f__e .none rfl ?_
   refine JL.done hQ (JQ.go ?_)
   rcases ite_some hF with ⟨hc66, hF⟩ | ⟨hc66, hF⟩
   ·refine JC.cond_t (b := y65) rfl hc66 ?_
    refine JC.seq (JC.region (by rfl) ?_)
    intro hQ
    refine JL.move .none rfl ?_
    refine JL.assign .none rfl ?_
    refine JL.done hQ (JQ.go (JC.fresh (fun f => f 4 = .int .i64 x_55) rfl ?_))
    rintro f hf4
    refine (JC.norm (i := 4) hf4 ?_)
    refine JC.ret (JQ.ret_block (JQ.ret_then (JQ.ret_then (JQ.ret_block (JQ.ret_join (JQ.ret_then ?_))))))
    obtain rfl := Option.some.inj hF
    have ehr57 := hr57 _ rfl
    subst ehr57
    have hF := hKr34
    try dsimp only at hF
    obtain rfl := Option.some.inj hF
    exact JQ.outS rfl (.tmp .nil) rfl
   ·refine JC.cond_f (b := y65) rfl hc66 ?_
    refine JC.skip (JQ.normal_block (JQ.go (JC.region (by rfl) ?_)))
    intro hQ
    refine JL.bin rfl rfl rfl .none rfl ?_
    refine JL.move .none rfl ?_
    refine JL.done hQ ?_
    obtain rfl := Option.some.inj hF
    exact JQ.next rfl ⟨rfl, rfl, rfl, rfl, rfl, rfl, hs56⟩
  ·refine JC.cond_f (b := decide (x_55 < (s.length : Int))) rfl hc59 ?_
   refine JC.exit (JQ.exit_then (JQ.exit_then (JQ.exit_block ?_)))
   obtain rfl := Option.some.inj hF
   have ehr57 := hr57 _ rfl
   subst ehr57
   exact JQ.join () ⟨rfl, rfl, hs56, rfl⟩
 ·rintro _ H33 f bs gs ⟨rfl, rfl, hs33, rfl⟩
  have hF := hKr34
  try dsimp only at hF
  refine JQ.go (JC.seq (JC.region (by rfl) ?_))
  intro hQ
  refine JL.assign .none rfl ?_
  refine JL.done hQ (JQ.go (JC.ret ?_))
  obtain rfl := Option.some.inj hF
  exact JQ.outS rfl (.tmp .nil) rfl
-- 139 slices.ContainsFunc[[]ferrule/api.Span,ferrule/api.Span]
def F_slices_ContainsFunc___api_Span_api_Span_ (n : Nat) (s : List Span) (f_ : Span → Option Bool) : Option Bool :=
 (F_slices_IndexFunc___api_Span_api_Span_ n s f_).bind fun y1 => some (decide (0 ≤ y1))
theorem c_slices_ContainsFunc___api_Span_api_Span_ (n : Nat) (H : Hp) (s : List Span) (s_v0 : Value) (hs_0 : SL H 2 R_Span s_v0 s) (f_ : Span → Option Bool) (f__k : Nat) (f__c : List Value) (f__e : Ent Try.prog f__k) (f__h : ∀ H', HSub H H' → ∀ (a0_ : Span) (y : Bool), f_ a0_ = some y → SC Try.prog f__k ([.agg [.int .i64 a0_.Low, .int .i64 a0_.High].toArray] ++ f__c) (.bool y) H') (y : Bool) (hF : F_slices_ContainsFunc___api_Span_api_Span_ n s f_ = some y) : SC Try.prog 139 [s_v0, .func (.func f__k) #[] f__c.toArray] (.bool y) H := by
 rw [F_slices_ContainsFunc___api_Span_api_Span_] at hF
 refine SC.of (N := 9) Try.func139 rfl rfl rfl fun w => ?_
 refine JC.seq (JC.region (by rfl) ?_)
 intro hQ
 refine JL.assign .none rfl ?_
 refine JL.done hQ (JQ.go (JC.seq (JC.region (by rfl) ?_)))
 intro hQ
 refine JL.move .none rfl ?_
 refine JL.move .none rfl ?_
 obtain ⟨y1, hy1, hF⟩ := bind_some hF
 refine JL.callS (c_slices_IndexFunc___api_Span_api_Span_ n H s s_v0 hs_0 f_ f__k f__c f__e (fun H' hs' => f__h H' hs') y1 hy1) rfl en_177 .none rfl ?_
 refine JL.bin rfl rfl rfl .none rfl ?_
 refine JL.assign .none rfl ?_
 refine JL.done hQ (JQ.go (JC.ret ?_))
 obtain rfl := Option.some.inj hF
 exact JQ.outS rfl (.tmp .nil) rfl
-- 178 slices.IndexFunc[[]int,int]
def F_slices_IndexFunc___int_int__s1 (n : Nat) (s : List Int) (f_ : Int → Option Bool) : Int → Option (Int ⊕ (Int ⊕ Unit))
 | x_55 => if decide (x_55 < (s.length : Int)) = true then ((geti s x_55).bind fun y60 => (f_ y60).bind fun y65 => if y65 = true then (some (Sum.inr (Sum.inl x_55))) else (some (Sum.inl (w64 (x_55 + 1))))) else (some (Sum.inr (Sum.inr ())))
def F_slices_IndexFunc___int_int_ (n : Nat) (s : List Int) (f_ : Int → Option Bool) : Option Int :=
 (loopO n (F_slices_IndexFunc___int_int__s1 n s f_) 0).bind fun r34 => match r34 with | .inl o => some o | .inr _ => some (-1)
theorem c_slices_IndexFunc___int_int_ (n : Nat) (H : Hp) (s : List Int) (s_v0 : Value) (hs_0 : SL H 1 RInt s_v0 s) (f_ : Int → Option Bool) (f__k : Nat) (f__c : List Value) (f__e : Ent Try.prog f__k) (f__h : ∀ H', HSub H H' → ∀ (a0_ : Int) (y : Bool), f_ a0_ = some y → SC Try.prog f__k ([.int .i64 a0_] ++ f__c) (.bool y) H') (y : Int) (hF : F_slices_IndexFunc___int_int_ n s f_ = some y) : SC Try.prog 178 [s_v0, .func (.func f__k) #[] f__c.toArray] (.int .i64 y) H := by
 rw [F_slices_IndexFunc___int_int_] at hF
 refine SC.of (N := 19) Try.func178 rfl rfl rfl fun w => ?_
 refine JC.seq (JC.region (by rfl) ?_)
 intro hQ
 refine JL.assign .none rfl ?_
 refine JL.done hQ (JQ.go (JC.seq (JC.seq (JC.region (by rfl) ?_))))
 intro hQ
 refine JL.move .none rfl ?_
 refine JL.lenSL (R := RInt) ul_23 hs_0 .none rfl ?_
 refine JL.move .none rfl ?_
 refine JL.done hQ (JQ.go ?_)
 obtain ⟨r34, hlr34, hKr34⟩ := bind_some hF
 refine JC.join (fun (_ : Unit) H33 f bs gs => bs = [] ∧ gs = [] ∧ HSub H H33 ∧ Sum.inr () = r34) ?_ ?_
 ·skip
  refine JC.block (JC.loop hlr34 (fun (x_55 : Int) H56 f bs gs => f 0 = s_v0 ∧ f 1 = .func (.func f__k) #[] f__c.toArray ∧ f 7 = .int .i64 (s.length : Int) ∧ f 8 = .int .i64 x_55 ∧ bs = [] ∧ gs = [] ∧ HSub H H56) ⟨rfl, rfl, rfl, rfl, rfl, rfl, (HSub.refl _)⟩ ?_)
  rintro x_55 x58 H56 f bs gs ⟨hf0, hf1, hf7, hf8, rfl, rfl, hs56⟩ hF hr57
  rw [F_slices_IndexFunc___int_int__s1] at hF
  refine (JC.norm (i := 0) hf0 (JC.norm (i := 1) hf1 (JC.norm (i := 7) hf7 (JC.norm (i := 8) hf8 ?_))))
  refine JC.seq (JC.region (by rfl) ?_)
  intro hQ
  refine JL.bin rfl rfl rfl .none rfl ?_
  refine JL.done hQ (JQ.go (JC.seq ?_))
  rcases ite_some hF with ⟨hc59, hF⟩ | ⟨hc59, hF⟩
  ·refine JC.cond_t (b := decide (x_55 < (s.length : Int))) rfl hc59 ?_
   refine JC.skip (JQ.go (JC.seq (JC.block (JC.seq (JC.region (by rfl) ?_)))))
   intro hQ
   refine JL.move .none rfl ?_
   refine JL.assign .none rfl ?_
   refine JL.done hQ (JQ.go (JC.seq (JC.region (by rfl) ?_)))
   intro hQ
   refine JL.move .none rfl ?_
   refine JL.move .none rfl ?_
   refine JL.move .none rfl ?_
   obtain ⟨y60, hy60, hF⟩ := bind_some hF
   refine JL.indexSL (R := RInt) sl_23 (SL.mono RInt.mono hs56 hs_0) rfl hy60 .none rfl ?_
   rintro b61 o62 cs63 hc64 - rfl
   refine JL.loadH 0 az_3 rfl hc64 rfl .none rfl ?_
   obtain ⟨y65, hy65, hF⟩ := bind_some hF
   refine JL.callV rfl (f__h H56 hs56 y60 y65 hy65) rfl f__e .none rfl ?_
   refine JL.done hQ (JQ.go ?_)
   rcases ite_some hF with ⟨hc66, hF⟩ | ⟨hc66, hF⟩
   ·refine JC.cond_t (b := y65) rfl hc66 ?_
    refine JC.seq (JC.region (by rfl) ?_)
    intro hQ
    refine JL.move .none rfl ?_
    refine JL.assign .none rfl ?_
    refine JL.done hQ (JQ.go (JC.fresh (fun f => f 4 = .int .i64 x_55) rfl ?_))
    rintro f hf4
    refine (JC.norm (i := 4) hf4 ?_)
    refine JC.ret (JQ.ret_block (JQ.ret_then (JQ.ret_then (JQ.ret_block (JQ.ret_join (JQ.ret_then ?_))))))
    obtain rfl := Option.some.inj hF
    have ehr57 := hr57 _ rfl
    subst ehr57
    have hF := hKr34
    try dsimp only at hF
    obtain rfl := Option.some.inj hF
    exact JQ.outS rfl (.tmp .nil) rfl
   ·refine JC.cond_f (b := y65) rfl hc66 ?_
    refine JC.skip (JQ.normal_block (JQ.go (JC.region (by rfl) ?_)))
    intro hQ
    refine JL.bin rfl rfl rfl .none rfl ?_
    refine JL.move .none rfl ?_
    refine JL.done hQ ?_
    obtain rfl := Option.some.inj hF
    exact JQ.next rfl ⟨rfl, rfl, rfl, rfl, rfl, rfl, hs56⟩
  ·refine JC.cond_f (b := decide (x_55 < (s.length : Int))) rfl hc59 ?_
   refine JC.exit (JQ.exit_then (JQ.exit_then (JQ.exit_block ?_)))
   obtain rfl := Option.some.inj hF
   have ehr57 := hr57 _ rfl
   subst ehr57
   exact JQ.join () ⟨rfl, rfl, hs56, rfl⟩
 ·rintro _ H33 f bs gs ⟨rfl, rfl, hs33, rfl⟩
  have hF := hKr34
  try dsimp only at hF
  refine JQ.go (JC.seq (JC.region (by rfl) ?_))
  intro hQ
  refine JL.assign .none rfl ?_
  refine JL.done hQ (JQ.go (JC.ret ?_))
  obtain rfl := Option.some.inj hF
  exact JQ.outS rfl (.tmp .nil) rfl
end Go.Proofs.Yteihdclpiekmaaa
end
