/-
  A part of the proof of FoForces: the texts FoGenK13, FoGenK14.
-/
import Derived.Test.YtcipdblhopffbaaGreatJFoForces8
section
namespace Go.Proofs.YtcipdblhopffbaaGreat
open Go Go.RowKit Go.Dec
set_option linter.unusedVariables false
-- 70 ferrule/ferruleref13.cases
def F_ref13_cases_s1 (n : Nat) (rec : Run → List Int → Option (List (List Int))) (r : Run) (first : List Int) (y10 : Blow) : Int × List (List Int) → Option ((Int × List (List Int)) ⊕ (List (List Int)))
 | (n_443, out_444) => if decide (n_443 ≤ y10.Force.High) = true then ((lim (([] : List Int) ++ first)).bind fun l451 => (lim (l451 ++ [n_443])).bind fun l456 => (rec r l456).bind fun y462 => (lim (out_444 ++ y462)).bind fun l464 => some (Sum.inl ((w64 (n_443 + 1)), l464))) else (some (Sum.inr out_444))
def F_ref13_cases : Nat → Run → List Int → Option (List (List Int))
 | 0, _, _ => none
 | n + 1, r, first => (fun rec => if ((first.length : Int) == (r.Blows.length : Int)) = true then (some [first]) else ((geti r.Blows (first.length : Int)).bind fun y10 => (loopO n (F_ref13_cases_s1 n rec r first y10) (y10.Force.Low, ([] : List (List Int)))).bind fun out_300 => some out_300)) (F_ref13_cases n)
set_option maxRecDepth 100000 in
set_option maxHeartbeats 40000000 in
theorem c_ref13_cases (n : Nat) : ∀ (H : Hp) (r : Run) (r_v0 : Value) (hr_0 : SL H 7 R_Section r_v0 r.Canopy.Frame.Sections) (r_v7 : Value) (hr_7 : SL H 2 R_Span r_v7 r.Canopy.Ribs) (r_v8 : Value) (hr_8 : SL H 1 RInt r_v8 r.Canopy.Shares) (r_v9 : Value) (hr_9 : SL H 3 R_Blow r_v9 r.Blows) (r_v10 : Value) (hr_10 : SL H 2 R_Meter r_v10 r.Meters) (first : List Int) (first_v0 : Value) (hfirst_0 : SL H 1 RInt first_v0 first) (y : (List (List Int))) (hF : F_ref13_cases n r first = some y), HC Tryz.prog 70 [.agg [r_v0, .int .i64 r.Canopy.Frame.Low, .int .i64 r.Canopy.Frame.High, .int .i64 r.Canopy.Frame.Ease.Num, .int .i64 r.Canopy.Frame.Ease.Den, .int .i64 r.Canopy.Frame.Rod, .int .i64 r.Canopy.Frame.Case, r_v7, r_v8, r_v9, r_v10, .int .i64 r.Wrong].toArray, first_v0] H (fun H' ra_v0 => SL H' 1 (RSl 1 RInt) ra_v0 y) := by
 induction n with
 | zero => intro H r r_v0 hr_0 r_v7 hr_7 r_v8 hr_8 r_v9 hr_9 r_v10 hr_10 first first_v0 hfirst_0 y hF; simp [F_ref13_cases] at hF
 | succ n ih =>
 intro H r r_v0 hr_0 r_v7 hr_7 r_v8 hr_8 r_v9 hr_9 r_v10 hr_10 first first_v0 hfirst_0 y hF
 rw [F_ref13_cases] at hF
 dsimp only at hF
 refine HC.of (N := 42) Tryz.func70 rfl rfl rfl fun w => ?_
 refine JC.seq ?_
 refine JC.region (by rfl) ?_
 intro hQ
 refine JL.box (cs := [r_v0, .int .i64 r.Canopy.Frame.Low, .int .i64 r.Canopy.Frame.High, .int .i64 r.Canopy.Frame.Ease.Num, .int .i64 r.Canopy.Frame.Ease.Den, .int .i64 r.Canopy.Frame.Rod, .int .i64 r.Canopy.Frame.Case, r_v7, r_v8, r_v9, r_v10, .int .i64 r.Wrong]) rfl .none rfl ?_
 intro b1
 refine JL.assign .none rfl ?_
 refine JL.done hQ ?_
 refine JQ.go ?_
 refine JC.seq ?_
 refine JC.seq ?_
 refine JC.region (by rfl) ?_
 intro hQ
 refine JL.move .none rfl ?_
 refine JL.lenSL (R := RInt) ul_28 hfirst_0 .none rfl ?_
 refine JL.fieldAddr fo_34_1 rfl .none rfl ?_
 refine JL.loadOwn 0 az_31 rfl rfl rfl .none rfl ?_
 refine JL.lenSL (R := R_Blow) ul_31 hr_9 .none rfl ?_
 refine JL.bin rfl rfl rfl .none rfl ?_
 refine JL.done hQ ?_
 refine JQ.go ?_
 rcases ite_some hF with ⟨hc2, hF⟩ | ⟨hc2, hF⟩
 ·refine JC.cond_t (b := ((first.length : Int) == (r.Blows.length : Int))) rfl hc2 ?_
  refine JC.seq ?_
  refine JC.region (by rfl) ?_
  intro hQ
  refine JL.move .none rfl ?_
  obtain ⟨a3, c4, rfl, hh5⟩ := hfirst_0
  have hfirst_0 : SL H 1 RInt (.slice a3 first.length c4) first := ⟨a3, c4, rfl, hh5⟩
  refine JL.buildSlice (e := 28) (l := [(.slice a3 first.length c4)]) (by kernel_rfl) .none rfl ?_
  intro b6
  refine JL.assign .none rfl ?_
  refine JL.done hQ ?_
  refine JQ.go ?_
  refine JC.ret ?_
  refine JQ.ret_then ?_
  refine JQ.freezeC 0 (l := [(.slice a3 first.length c4)]) rfl ?_
  intro H7 hs7 hc8
  have hg9 : SL H7 1 (RSl 1 RInt) (.slice (some ⟨b6, 0, none⟩) 1 1) [first] := CH.sl (l := [first]) (CH.cons (cs := [(.slice a3 first.length c4)]) rfl ⟨_, rfl, (SL.mono RInt.mono hs7 hfirst_0)⟩ CH.nil) hc8 ⟨by simp, by simp⟩
  obtain rfl := Option.some.inj hF
  exact JQ.outH rfl (.tmp .nil) hg9
 ·refine JC.cond_f (b := ((first.length : Int) == (r.Blows.length : Int))) rfl hc2 ?_
  refine JC.skip ?_
  refine JQ.go ?_
  refine JC.seq ?_
  refine JC.region (by rfl) ?_
  intro hQ
  refine JL.assign .none rfl ?_
  refine JL.done hQ ?_
  refine JQ.go ?_
  refine JC.seq ?_
  refine JC.region (by rfl) ?_
  intro hQ
  refine JL.fieldAddr fo_34_1 rfl .none rfl ?_
  refine JL.loadOwn 0 az_31 rfl rfl rfl .none rfl ?_
  refine JL.move .none rfl ?_
  refine JL.lenSL (R := RInt) ul_28 hfirst_0 .none rfl ?_
  obtain ⟨y10, hy10, hF⟩ := bind_some hF
  refine JL.indexSL (R := R_Blow) sl_31 hr_9 rfl hy10 .none rfl ?_
  rintro b11 o12 cs13 hc14 - rfl
  refine JL.fieldAddr fo_62_1 rfl .none rfl ?_
  refine JL.loadH 1 az_42 rfl hc14 rfl .none rfl ?_
  refine JL.alloc ze_42 .none rfl ?_
  intro b15
  refine JL.storeOwn 0 (cs := [.int .i64 y10.Force.Low, .int .i64 y10.Force.High]) az_42 rfl rfl rfl (one_cons rfl (one_cons rfl one_nil)) rfl rfl .none ?_
  refine JL.done hQ ?_
  refine JQ.go ?_
  refine JC.fresh (fun f => f 1 = first_v0 ∧ f 2 = .pointer (some ⟨b1, 0, none⟩) ∧ f 4 = .slice none 0 0 ∧ f 5 = .slice none 0 0 ∧ f 6 = .pointer (some ⟨b15, 0, none⟩)) ⟨rfl, rfl, rfl, rfl, rfl⟩ ?_
  rintro f ⟨hf1, hf2, hf4, hf5, hf6⟩
  refine (JC.norm (i := 1) hf1 (JC.norm (i := 2) hf2 (JC.norm (i := 4) hf4 (JC.norm (i := 5) hf5 (JC.norm (i := 6) hf6 ?_)))))
  refine JC.seq ?_
  refine JC.seq ?_
  refine JC.region (by rfl) ?_
  intro hQ
  refine JL.fieldAddr fo_42_0 rfl .none rfl ?_
  refine JL.loadOwn 0 az_3 rfl rfl rfl .none rfl ?_
  refine JL.assign .none rfl ?_
  refine JL.done hQ ?_
  refine JQ.go ?_
  refine JC.newNil (e := 28) (sz := 1) ?_
  obtain ⟨r302, hlr302, hKr302⟩ := bind_some hF
  refine JC.join (fun (out_300 : List (List Int)) H301 f bs gs => ∃ (vout_300 : Value) (xsout_300 : List Value), f 5 = vout_300 ∧ bs = [] ∧ gs = [⟨vout_300, 28, 1, out_300.length, xsout_300⟩] ∧ CH H301 1 (RSl 1 RInt) xsout_300 out_300 ∧ HSub H H301 ∧ out_300 = r302) ?_ ?_
  ·skip
   refine JC.block ?_
   refine JC.loop hlr302 (fun (x : Int × List (List Int)) H445 f bs gs => match x with | (n_443, out_444) => ∃ (vout_444 : Value) (xsout_444 : List Value), f 1 = first_v0 ∧ f 2 = .pointer (some ⟨b1, 0, none⟩) ∧ f 5 = vout_444 ∧ f 6 = .pointer (some ⟨b15, 0, none⟩) ∧ f 7 = .int .i64 n_443 ∧ bs = [(b15, .cells [.int .i64 y10.Force.Low, .int .i64 y10.Force.High].toArray 42), (b1, .cells [r_v0, .int .i64 r.Canopy.Frame.Low, .int .i64 r.Canopy.Frame.High, .int .i64 r.Canopy.Frame.Ease.Num, .int .i64 r.Canopy.Frame.Ease.Den, .int .i64 r.Canopy.Frame.Rod, .int .i64 r.Canopy.Frame.Case, r_v7, r_v8, r_v9, r_v10, .int .i64 r.Wrong].toArray 34)] ∧ gs = [⟨vout_444, 28, 1, out_444.length, xsout_444⟩] ∧ CH H445 1 (RSl 1 RInt) xsout_444 out_444 ∧ HSub H H445) ⟨(.slice none 0 0), [], rfl, rfl, rfl, rfl, rfl, rfl, rfl, CH.nil, (HSub.refl _)⟩ ?_
   rintro ⟨n_443, out_444⟩ x447 H445 f bs gs ⟨vout_444, xsout_444, hf1, hf2, hf5, hf6, hf7, rfl, rfl, hout_444, hs445⟩ hF hr446
   rw [F_ref13_cases_s1] at hF
   refine (JC.norm (i := 1) hf1 (JC.norm (i := 2) hf2 (JC.norm (i := 5) hf5 (JC.norm (i := 6) hf6 (JC.norm (i := 7) hf7 ?_)))))
   refine JC.seq ?_
   refine JC.seq ?_
   refine JC.region (by rfl) ?_
   intro hQ
   refine JL.move .none rfl ?_
   refine JL.fieldAddr fo_42_1 rfl .none rfl ?_
   refine JL.loadOwn 0 az_3 rfl rfl rfl .none rfl ?_
   refine JL.bin rfl rfl rfl .none rfl ?_
   refine JL.done hQ ?_
   refine JQ.go ?_
   rcases ite_some hF with ⟨hc448, hF⟩ | ⟨hc448, hF⟩
   ·refine JC.cond_t (b := decide (n_443 ≤ y10.Force.High)) rfl hc448 ?_
    refine JC.skip ?_
    refine JQ.go ?_
    refine JC.seq ?_
    refine JC.block ?_
    obtain ⟨l451, hl451, hF⟩ := bind_some hF
    obtain ⟨l456, hl456, hF⟩ := bind_some hF
    obtain ⟨y462, hy462, hF⟩ := bind_some hF
    obtain ⟨l464, hl464, hF⟩ := bind_some hF
    refine JC.mixed 11 11 #[false, false, false, false, false, false, false, false, false, false, false] [(b15, .cells [.int .i64 y10.Force.Low, .int .i64 y10.Force.High].toArray 42), (b1, .cells [r_v0, .int .i64 r.Canopy.Frame.Low, .int .i64 r.Canopy.Frame.High, .int .i64 r.Canopy.Frame.Ease.Num, .int .i64 r.Canopy.Frame.Ease.Den, .int .i64 r.Canopy.Frame.Rod, .int .i64 r.Canopy.Frame.Case, r_v7, r_v8, r_v9, r_v10, .int .i64 r.Wrong].toArray 34)] (by rfl) mo_ (by kernel_rfl) (by kernel_rfl) ?_
    intro hQ hE
    refine JA.cut 4 #[true, true, true, true, true, true, true, false, false, false, false] (fun H490 f bs gs => ∃ (b477 : Nat) (v471 : Value) (xs472 : List Value), f 1 = first_v0 ∧ f 2 = .pointer (some ⟨b1, 0, none⟩) ∧ f 5 = vout_444 ∧ f 6 = .pointer (some ⟨b15, 0, none⟩) ∧ f 7 = .int .i64 n_443 ∧ f 31 = vout_444 ∧ f 32 = .agg [r_v0, .int .i64 r.Canopy.Frame.Low, .int .i64 r.Canopy.Frame.High, .int .i64 r.Canopy.Frame.Ease.Num, .int .i64 r.Canopy.Frame.Ease.Den, .int .i64 r.Canopy.Frame.Rod, .int .i64 r.Canopy.Frame.Case, r_v7, r_v8, r_v9, r_v10, .int .i64 r.Wrong].toArray ∧ f 35 = v471 ∧ f 37 = .slice (some ⟨b477, 0, none⟩) 1 1 ∧ bs = [(b477, .cells [.int .i64 n_443].toArray 3), (b15, .cells [.int .i64 y10.Force.Low, .int .i64 y10.Force.High].toArray 42), (b1, .cells [r_v0, .int .i64 r.Canopy.Frame.Low, .int .i64 r.Canopy.Frame.High, .int .i64 r.Canopy.Frame.Ease.Num, .int .i64 r.Canopy.Frame.Ease.Den, .int .i64 r.Canopy.Frame.Rod, .int .i64 r.Canopy.Frame.Case, r_v7, r_v8, r_v9, r_v10, .int .i64 r.Wrong].toArray 34)] ∧ gs = [⟨v471, 3, 1, l451.length, xs472⟩, ⟨vout_444, 28, 1, out_444.length, xsout_444⟩] ∧ CH H490 1 RInt xs472 l451 ∧ HSub H445 H490) ?_ ?_
    ·rintro H490 f bs gs ⟨b477, v471, xs472, hf1, hf2, hf5, hf6, hf7, hf31, hf32, hf35, hf37, rfl, rfl, hm491, hs490⟩
     refine (JA.norm (i := 1) hf1 (JA.norm (i := 2) hf2 (JA.norm (i := 5) hf5 (JA.norm (i := 6) hf6 (JA.norm (i := 7) hf7 (JA.norm (i := 31) hf31 (JA.norm (i := 32) hf32 (JA.norm (i := 35) hf35 (JA.norm (i := 37) hf37 ?_)))))))))
     refine JA.many [7] (by kernel_rfl) (by simp) (all_one ⟨_, #[true, true, true, true, true, true, true, true, false, false, false], rfl, (by kernel_rfl), ?_⟩)
     refine JL.appO (R := RInt) 0 0 (l := l451) (m := [n_443]) ap_28 rfl ⟨rfl, rfl⟩ rfl hm491 rfl rfl rfl (CH.cons (cs := [.int .i64 n_443]) rfl rfl CH.nil) rfl (one_cons rfl one_nil) hl456 .none rfl ?_
     intro v492 xs493 hch494
     refine JA.after hE hs490 (.cons _ (.cons_cons _ (.cons_cons _ (List.nil_sublist _)))) ?_
     refine JA.many [8] (by kernel_rfl) (by simp) (all_one ⟨_, #[true, true, true, true, true, true, true, true, true, false, false], rfl, (by kernel_rfl), ?_⟩)
     refine JL.freezeG 0 (R := RInt) rfl RInt.mono hch494 rfl ?_
     intro H495 hs495 hg496
     refine JL.callH (ih H495 r r_v0 (SL.mono R_Section_mono (HSub.trans hs445 (HSub.trans hs490 hs495)) hr_0) r_v7 (SL.mono R_Span_mono (HSub.trans hs445 (HSub.trans hs490 hs495)) hr_7) r_v8 (SL.mono RInt.mono (HSub.trans hs445 (HSub.trans hs490 hs495)) hr_8) r_v9 (SL.mono R_Blow_mono (HSub.trans hs445 (HSub.trans hs490 hs495)) hr_9) r_v10 (SL.mono R_Meter_mono (HSub.trans hs445 (HSub.trans hs490 hs495)) hr_10) l456 v492 hg496 y462 hy462) rfl en_70 .none rfl ?_
     intro H497 y462a_v0 hs497 hy462a_0
     refine JA.after hE (HSub.trans hs490 (HSub.trans hs495 hs497)) (.cons _ (.cons_cons _ (.cons_cons _ (List.nil_sublist _)))) ?_
     refine JA.many [9] (by kernel_rfl) (by simp) (all_one ⟨_, #[true, true, true, true, true, true, true, true, true, true, false], rfl, (by kernel_rfl), ?_⟩)
     refine JL.appD (R := (RSl 1 RInt)) 0 (l := out_444) (m := y462) ap_84 rfl ⟨rfl, rfl⟩ rfl (CH.mono (RSl.mono RInt.mono) (HSub.trans hs490 (HSub.trans hs495 hs497)) hout_444) rfl hy462a_0 (RSl.one _) hl464 .none rfl ?_
     intro v498 xs499 hch500
     refine JA.after hE (HSub.trans hs490 (HSub.trans hs495 hs497)) (.cons _ (.cons_cons _ (.cons_cons _ (List.nil_sublist _)))) ?_
     refine JA.take 10 (listed' := #[true, true, true, true, true, true, true, true, true, true, true]) hQ rfl (by kernel_rfl) (by kernel_rfl) (by kernel_rfl) (by kernel_rfl) (by kernel_rfl) hE (HSub.trans hs490 (HSub.trans hs495 hs497)) (.cons _ (.cons_cons _ (.cons_cons _ (List.nil_sublist _)))) ?_
     refine JL.assign .none rfl ?_
     refine JA.cont ?_
     refine JA.done hQ (by kernel_rfl) ?_
     refine JQ.normal_block ?_
     refine JQ.go ?_
     refine JC.region (by rfl) ?_
     intro hQ
     refine JL.move .none rfl ?_
     refine JL.bin rfl rfl rfl .none rfl ?_
     refine JL.assign .none rfl ?_
     refine JL.done hQ ?_
     obtain rfl := Option.some.inj hF
     refine JQ.mask [false, true, true] [true] ?_
     exact JQ.next rfl ⟨v498, xs499, rfl, rfl, rfl, rfl, rfl, rfl, rfl, hch500, (HSub.trans hs445 (HSub.trans hs490 (HSub.trans hs495 hs497)))⟩
    intro nd489_0
    refine JA.cut 5 #[true, true, true, true, false, true, true, false, false, false, false] (fun H501 f bs gs => ∃ (b474 : Nat) (v468 : Value), f 1 = first_v0 ∧ f 2 = .pointer (some ⟨b1, 0, none⟩) ∧ f 5 = vout_444 ∧ f 6 = .pointer (some ⟨b15, 0, none⟩) ∧ f 7 = .int .i64 n_443 ∧ f 31 = vout_444 ∧ f 32 = .agg [r_v0, .int .i64 r.Canopy.Frame.Low, .int .i64 r.Canopy.Frame.High, .int .i64 r.Canopy.Frame.Ease.Num, .int .i64 r.Canopy.Frame.Ease.Den, .int .i64 r.Canopy.Frame.Rod, .int .i64 r.Canopy.Frame.Case, r_v7, r_v8, r_v9, r_v10, .int .i64 r.Wrong].toArray ∧ f 33 = v468 ∧ f 34 = first_v0 ∧ f 37 = .slice (some ⟨b474, 0, none⟩) 1 1 ∧ bs = [(b474, .cells [.int .i64 n_443].toArray 3), (b15, .cells [.int .i64 y10.Force.Low, .int .i64 y10.Force.High].toArray 42), (b1, .cells [r_v0, .int .i64 r.Canopy.Frame.Low, .int .i64 r.Canopy.Frame.High, .int .i64 r.Canopy.Frame.Ease.Num, .int .i64 r.Canopy.Frame.Ease.Den, .int .i64 r.Canopy.Frame.Rod, .int .i64 r.Canopy.Frame.Case, r_v7, r_v8, r_v9, r_v10, .int .i64 r.Wrong].toArray 34)] ∧ gs = [⟨v468, 3, 1, 0, []⟩, ⟨vout_444, 28, 1, out_444.length, xsout_444⟩] ∧ HSub H445 H501) ?_ ?_
    ·rintro H501 f bs gs ⟨b474, v468, hf1, hf2, hf5, hf6, hf7, hf31, hf32, hf33, hf34, hf37, rfl, rfl, hs501⟩
     refine (JA.norm (i := 1) hf1 (JA.norm (i := 2) hf2 (JA.norm (i := 5) hf5 (JA.norm (i := 6) hf6 (JA.norm (i := 7) hf7 (JA.norm (i := 31) hf31 (JA.norm (i := 32) hf32 (JA.norm (i := 33) hf33 (JA.norm (i := 34) hf34 (JA.norm (i := 37) hf37 ?_))))))))))
     refine JA.many [4] (by kernel_rfl) (by simp) (all_one ⟨_, #[true, true, true, true, true, true, true, false, false, false, false], rfl, (by kernel_rfl), ?_⟩)
     refine JL.appD (R := RInt) 0 (l := ([] : List Int)) (m := first) ap_28 rfl ⟨rfl, rfl⟩ rfl CH.nil rfl (SL.mono RInt.mono (HSub.trans hs445 hs501) hfirst_0) (RInt.one _) hl451 .none rfl ?_
     intro v502 xs503 hch504
     refine JA.after hE hs501 (.cons _ (.cons_cons _ (.cons_cons _ (List.nil_sublist _)))) ?_
     exact nd489_0 _ _ _ _ ⟨b474, v502, xs503, rfl, rfl, rfl, rfl, rfl, rfl, rfl, rfl, rfl, rfl, rfl, hch504, hs501⟩
    intro nd489_1
    refine JA.take 0 (listed' := #[true, false, false, false, false, false, false, false, false, false, false]) hQ rfl (by kernel_rfl) (by kernel_rfl) (by kernel_rfl) (by kernel_rfl) (by kernel_rfl) hE (HSub.refl _) (.cons_cons _ (.cons_cons _ (List.nil_sublist _))) ?_
    refine JL.move .none rfl ?_
    refine JA.cont ?_
    refine JA.take 1 (listed' := #[true, true, false, false, false, false, false, false, false, false, false]) hQ rfl (by kernel_rfl) (by kernel_rfl) (by kernel_rfl) (by kernel_rfl) (by kernel_rfl) hE (HSub.refl _) (.cons_cons _ (.cons_cons _ (List.nil_sublist _))) ?_
    refine JL.loadOwn 1 az_34 rfl rfl rfl .none rfl ?_
    refine JA.cont ?_
    refine JA.take 3 (listed' := #[true, true, false, true, false, false, false, false, false, false, false]) hQ rfl (by kernel_rfl) (by kernel_rfl) (by kernel_rfl) (by kernel_rfl) (by kernel_rfl) hE (HSub.refl _) (.cons_cons _ (.cons_cons _ (List.nil_sublist _))) ?_
    refine JL.move .none rfl ?_
    refine JA.cont ?_
    refine JA.take 5 (listed' := #[true, true, false, true, false, true, false, false, false, false, false]) hQ rfl (by kernel_rfl) (by kernel_rfl) (by kernel_rfl) (by kernel_rfl) (by kernel_rfl) hE (HSub.refl _) (.cons_cons _ (.cons_cons _ (List.nil_sublist _))) ?_
    refine JL.move .none rfl ?_
    refine JA.cont ?_
    refine JA.many [2, 6] (by kernel_rfl) (by simp) (all_cons ⟨_, #[true, true, true, true, false, true, false, false, false, false, false], rfl, (by kernel_rfl), ?_⟩ (all_one ⟨_, #[true, true, false, true, false, true, true, false, false, false, false], rfl, (by kernel_rfl), ?_⟩))
    ·skip
     refine JL.emptySlice ap_28 .none rfl ?_
     intro v505
     refine JA.after hE (HSub.refl _) (.cons_cons _ (.cons_cons _ (List.nil_sublist _))) ?_
     refine JA.many [4, 6] (by kernel_rfl) (by simp) (all_cons ⟨_, #[true, true, true, true, true, true, false, false, false, false, false], rfl, (by kernel_rfl), ?_⟩ (all_one ⟨_, #[true, true, true, true, false, true, true, false, false, false, false], rfl, (by kernel_rfl), ?_⟩))
     ·skip
      refine JL.appD (R := RInt) 0 (l := ([] : List Int)) (m := first) ap_28 rfl ⟨rfl, rfl⟩ rfl CH.nil rfl (SL.mono RInt.mono hs445 hfirst_0) (RInt.one _) hl451 .none rfl ?_
      intro v507 xs508 hch509
      refine JA.after hE (HSub.refl _) (.cons_cons _ (.cons_cons _ (List.nil_sublist _))) ?_
      refine JA.many [6] (by kernel_rfl) (by simp) (all_one ⟨_, #[true, true, true, true, true, true, true, false, false, false, false], rfl, (by kernel_rfl), ?_⟩)
      refine JL.buildSlice (e := 3) (l := [.int .i64 n_443]) (by kernel_rfl) .none rfl ?_
      intro b510
      refine JA.after hE (HSub.refl _) (.cons _ (.cons_cons _ (.cons_cons _ (List.nil_sublist _)))) ?_
      exact nd489_0 _ _ _ _ ⟨b510, v507, xs508, rfl, rfl, rfl, rfl, rfl, rfl, rfl, rfl, rfl, rfl, rfl, hch509, (HSub.refl _)⟩
     ·skip
      refine JL.buildSlice (e := 3) (l := [.int .i64 n_443]) (by kernel_rfl) .none rfl ?_
      intro b511
      refine JA.after hE (HSub.refl _) (.cons _ (.cons_cons _ (.cons_cons _ (List.nil_sublist _)))) ?_
      exact nd489_1 _ _ _ _ ⟨b511, v505, rfl, rfl, rfl, rfl, rfl, rfl, rfl, rfl, rfl, rfl, rfl, rfl, (HSub.refl _)⟩
    ·skip
     refine JL.buildSlice (e := 3) (l := [.int .i64 n_443]) (by kernel_rfl) .none rfl ?_
     intro b512
     refine JA.after hE (HSub.refl _) (.cons _ (.cons_cons _ (.cons_cons _ (List.nil_sublist _)))) ?_
     refine JA.many [2] (by kernel_rfl) (by simp) (all_one ⟨_, #[true, true, true, true, false, true, true, false, false, false, false], rfl, (by kernel_rfl), ?_⟩)
     refine JL.emptySlice ap_28 .none rfl ?_
     intro v513
     refine JA.after hE (HSub.refl _) (.cons _ (.cons_cons _ (.cons_cons _ (List.nil_sublist _)))) ?_
     exact nd489_1 _ _ _ _ ⟨b512, v513, rfl, rfl, rfl, rfl, rfl, rfl, rfl, rfl, rfl, rfl, rfl, rfl, (HSub.refl _)⟩
   ·refine JC.cond_f (b := decide (n_443 ≤ y10.Force.High)) rfl hc448 ?_
    refine JC.exit ?_
    refine JQ.exit_then ?_
    refine JQ.exit_then ?_
    refine JQ.exit_block ?_
    obtain rfl := Option.some.inj hF
    have ehr446 := hr446 _ rfl
    subst ehr446
    refine JQ.mask [false, false] [true] ?_
    exact JQ.join out_444 ⟨vout_444, xsout_444, rfl, rfl, rfl, hout_444, hs445, rfl⟩
  ·rintro out_300 H301 f bs gs ⟨vout_300, xsout_300, hf5, rfl, rfl, hout_300, hs301, rfl⟩
   have hF := hKr302
   try dsimp only at hF
   refine (JQ.norm (i := 5) hf5 ?_)
   refine JQ.go ?_
   refine JC.seq ?_
   refine JC.region (by rfl) ?_
   intro hQ
   refine JL.move .none rfl ?_
   refine JL.assign .none rfl ?_
   refine JL.done hQ ?_
   refine JQ.go ?_
   refine JC.ret ?_
   refine JQ.freezeG 0 (R := (RSl 1 RInt)) rfl (RSl.mono RInt.mono) hout_300 rfl ?_
   intro H515 hs515 hg516
   obtain rfl := Option.some.inj hF
   exact JQ.outH rfl (.tmp .nil) hg516
-- 21 ferrule/ferruleref13.Above
def F_ref13_Above_s1 (n : Nat) (forces : List Int) (limit : Int) : Int × Int → Option ((Int × Int) ⊕ Int)
 | (n_76, i_77) => if decide (i_77 < (forces.length : Int)) = true then ((geti forces i_77).bind fun y82 => (if decide (limit ≤ y82) = true then (some (w64 (n_76 + 1))) else (some n_76)).bind fun n_88 => some (Sum.inl (n_88, (w64 (i_77 + 1))))) else (some (Sum.inr n_76))
def F_ref13_Above (n : Nat) (forces : List Int) (limit : Int) : Option Int :=
 (loopO n (F_ref13_Above_s1 n forces limit) (0, 0)).bind fun n_45 => some n_45
set_option maxRecDepth 100000 in
set_option maxHeartbeats 40000000 in
theorem c_ref13_Above (n : Nat) (H : Hp) (forces : List Int) (forces_v0 : Value) (hforces_0 : SL H 1 RInt forces_v0 forces) (limit : Int) (y : Int) (hF : F_ref13_Above n forces limit = some y) : SC Tryz.prog 21 [forces_v0, .int .i64 limit] (.int .i64 y) H := by
 rw [F_ref13_Above] at hF
 refine SC.of (N := 22) Tryz.func21 rfl rfl rfl fun w => ?_
 refine JC.seq ?_
 refine JC.region (by rfl) ?_
 intro hQ
 refine JL.assign .none rfl ?_
 refine JL.done hQ ?_
 refine JQ.go ?_
 refine JC.seq ?_
 refine JC.region (by rfl) ?_
 intro hQ
 refine JL.assign .none rfl ?_
 refine JL.done hQ ?_
 refine JQ.go ?_
 refine JC.seq ?_
 refine JC.seq ?_
 refine JC.region (by rfl) ?_
 intro hQ
 refine JL.assign .none rfl ?_
 refine JL.done hQ ?_
 refine JQ.go ?_
 obtain ⟨r47, hlr47, hKr47⟩ := bind_some hF
 refine JC.join (fun (n_45 : Int) H46 f bs gs => f 5 = .int .i64 n_45 ∧ bs = [] ∧ gs = [] ∧ HSub H H46 ∧ n_45 = r47) ?_ ?_
 ·skip
  refine JC.block ?_
  refine JC.loop hlr47 (fun (x : Int × Int) H78 f bs gs => match x with | (n_76, i_77) => f 0 = forces_v0 ∧ f 1 = .int .i64 limit ∧ f 5 = .int .i64 n_76 ∧ f 6 = .int .i64 i_77 ∧ bs = [] ∧ gs = [] ∧ HSub H H78) ⟨rfl, rfl, rfl, rfl, rfl, rfl, (HSub.refl _)⟩ ?_
  rintro ⟨n_76, i_77⟩ x80 H78 f bs gs ⟨hf0, hf1, hf5, hf6, rfl, rfl, hs78⟩ hF hr79
  rw [F_ref13_Above_s1] at hF
  refine (JC.norm (i := 0) hf0 (JC.norm (i := 1) hf1 (JC.norm (i := 5) hf5 (JC.norm (i := 6) hf6 ?_))))
  refine JC.seq ?_
  refine JC.seq ?_
  refine JC.region (by rfl) ?_
  intro hQ
  refine JL.move .none rfl ?_
  refine JL.move .none rfl ?_
  refine JL.lenSL (R := RInt) ul_28 (SL.mono RInt.mono hs78 hforces_0) .none rfl ?_
  refine JL.bin rfl rfl rfl .none rfl ?_
  refine JL.done hQ ?_
  refine JQ.go ?_
  rcases ite_some hF with ⟨hc81, hF⟩ | ⟨hc81, hF⟩
  ·refine JC.cond_t (b := decide (i_77 < (forces.length : Int))) rfl hc81 ?_
   refine JC.skip ?_
   refine JQ.go ?_
   refine JC.seq ?_
   refine JC.block ?_
   refine JC.seq ?_
   refine JC.region (by rfl) ?_
   intro hQ
   refine JL.move .none rfl ?_
   refine JL.move .none rfl ?_
   obtain ⟨y82, hy82, hF⟩ := bind_some hF
   refine JL.indexSL (R := RInt) sl_28 (SL.mono RInt.mono hs78 hforces_0) rfl hy82 .none rfl ?_
   rintro b83 o84 cs85 hc86 - rfl
   refine JL.loadH 0 az_3 rfl hc86 rfl .none rfl ?_
   refine JL.move .none rfl ?_
   refine JL.bin rfl rfl rfl .none rfl ?_
   refine JL.done hQ ?_
   refine JQ.go ?_
   refine JC.fresh (fun f => f 0 = forces_v0 ∧ f 1 = .int .i64 limit ∧ f 5 = .int .i64 n_76 ∧ f 6 = .int .i64 i_77 ∧ f 18 = .bool (decide (limit ≤ y82))) ⟨rfl, rfl, rfl, rfl, rfl⟩ ?_
   rintro f ⟨hf0, hf1, hf5, hf6, hf18⟩
   refine (JC.norm (i := 0) hf0 (JC.norm (i := 1) hf1 (JC.norm (i := 5) hf5 (JC.norm (i := 6) hf6 (JC.norm (i := 18) hf18 ?_)))))
   obtain ⟨r90, hlr90, hKr90⟩ := bind_some hF
   refine JC.join (fun (n_88 : Int) H89 f bs gs => f 0 = forces_v0 ∧ f 1 = .int .i64 limit ∧ f 5 = .int .i64 n_88 ∧ f 6 = .int .i64 i_77 ∧ bs = [] ∧ gs = [] ∧ HSub H78 H89 ∧ n_88 = r90) ?_ ?_
   ·have hF := hlr90
    rcases ite_some hF with ⟨hc91, hF⟩ | ⟨hc91, hF⟩
    ·refine JC.cond_t (b := decide (limit ≤ y82)) rfl hc91 ?_
     refine JC.region (by rfl) ?_
     intro hQ
     refine JL.move .none rfl ?_
     refine JL.bin rfl rfl rfl .none rfl ?_
     refine JL.assign .none rfl ?_
     refine JL.done hQ ?_
     obtain rfl := Option.some.inj hF
     exact JQ.join (w64 (n_76 + 1)) ⟨rfl, rfl, rfl, rfl, rfl, rfl, (HSub.refl _), rfl⟩
    ·refine JC.cond_f (b := decide (limit ≤ y82)) rfl hc91 ?_
     refine JC.skip ?_
     obtain rfl := Option.some.inj hF
     exact JQ.join n_76 ⟨rfl, rfl, rfl, rfl, rfl, rfl, (HSub.refl _), rfl⟩
   ·rintro n_88 H89 f bs gs ⟨hf0, hf1, hf5, hf6, rfl, rfl, hs89, rfl⟩
    have hF := hKr90
    try dsimp only at hF
    refine (JQ.norm (i := 0) hf0 (JQ.norm (i := 1) hf1 (JQ.norm (i := 5) hf5 (JQ.norm (i := 6) hf6 ?_))))
    refine JQ.normal_block ?_
    refine JQ.go ?_
    refine JC.region (by rfl) ?_
    intro hQ
    refine JL.move .none rfl ?_
    refine JL.bin rfl rfl rfl .none rfl ?_
    refine JL.assign .none rfl ?_
    refine JL.done hQ ?_
    obtain rfl := Option.some.inj hF
    exact JQ.next rfl ⟨rfl, rfl, rfl, rfl, rfl, rfl, (HSub.trans hs78 hs89)⟩
  ·refine JC.cond_f (b := decide (i_77 < (forces.length : Int))) rfl hc81 ?_
   refine JC.exit ?_
   refine JQ.exit_then ?_
   refine JQ.exit_then ?_
   refine JQ.exit_block ?_
   obtain rfl := Option.some.inj hF
   have ehr79 := hr79 _ rfl
   subst ehr79
   exact JQ.join n_76 ⟨rfl, rfl, rfl, hs78, rfl⟩
 ·rintro n_45 H46 f bs gs ⟨hf5, rfl, rfl, hs46, rfl⟩
  have hF := hKr47
  try dsimp only at hF
  refine (JQ.norm (i := 5) hf5 ?_)
  refine JQ.go ?_
  refine JC.seq ?_
  refine JC.region (by rfl) ?_
  intro hQ
  refine JL.move .none rfl ?_
  refine JL.assign .none rfl ?_
  refine JL.done hQ ?_
  refine JQ.go ?_
  refine JC.ret ?_
  obtain rfl := Option.some.inj hF
  exact JQ.outS rfl (.tmp .nil) rfl
-- 26 ferrule/ferruleref13.IsRight
def F_ref13_IsRight (n : Nat) (m : Meter) (forces : List Int) : Option Bool :=
 (F_ref13_Above n forces m.Limit).bind fun y3 => some (y3 == m.Count)
set_option maxRecDepth 100000 in
set_option maxHeartbeats 40000000 in
theorem c_ref13_IsRight (n : Nat) (H : Hp) (m : Meter) (forces : List Int) (forces_v0 : Value) (hforces_0 : SL H 1 RInt forces_v0 forces) (y : Bool) (hF : F_ref13_IsRight n m forces = some y) : SC Tryz.prog 26 [.agg [.int .i64 m.Limit, .int .i64 m.Count].toArray, forces_v0] (.bool y) H := by
 rw [F_ref13_IsRight] at hF
 refine SC.of (N := 12) Tryz.func26 rfl rfl rfl fun w => ?_
 refine JC.seq ?_
 refine JC.region (by rfl) ?_
 intro hQ
 refine JL.box (cs := [.int .i64 m.Limit, .int .i64 m.Count]) rfl .none rfl ?_
 intro b1
 refine JL.assign .none rfl ?_
 refine JL.done hQ ?_
 refine JQ.go ?_
 refine JC.seq ?_
 refine JC.draw (by rfl) mo_ (by kernel_rfl) ?_
 intro hQ
 refine JL.move .none rfl ?_
 refine JL.fieldAddr fo_73_0 rfl .none rfl ?_
 refine JL.loadOwn 0 az_3 rfl rfl rfl .none rfl ?_
 obtain ⟨y3, hy3, hF⟩ := bind_some hF
 refine JL.callS (c_ref13_Above n H forces forces_v0 hforces_0 m.Limit y3 hy3) rfl en_21 .none rfl ?_
 refine JL.fieldAddr fo_73_1 rfl .none rfl ?_
 refine JL.loadOwn 0 az_3 rfl rfl rfl .none rfl ?_
 refine JL.bin rfl rfl rfl .none rfl ?_
 refine JL.assign .none rfl ?_
 refine JL.doneQ hQ ?_
 refine JQ.go ?_
 refine JC.ret ?_
 obtain rfl := Option.some.inj hF
 exact JQ.outS rfl (.tmp .nil) rfl
-- 51 ferrule/ferruleref13.Wrongs
def F_ref13_Wrongs_s1 (n : Nat) (r : Run) (forces : List Int) : Int × Int → Option ((Int × Int) ⊕ Int)
 | (n_82, i_83) => if decide (i_83 < (r.Meters.length : Int)) = true then ((geti r.Meters i_83).bind fun y88 => (F_ref13_IsRight n y88 forces).bind fun y93 => (if (!y93) = true then (some (w64 (n_82 + 1))) else (some n_82)).bind fun n_95 => some (Sum.inl (n_95, (w64 (i_83 + 1))))) else (some (Sum.inr n_82))
def F_ref13_Wrongs (n : Nat) (r : Run) (forces : List Int) : Option Int :=
 (loopO n (F_ref13_Wrongs_s1 n r forces) (0, 0)).bind fun n_49 => some n_49
set_option maxRecDepth 100000 in
set_option maxHeartbeats 40000000 in
theorem c_ref13_Wrongs (n : Nat) (H : Hp) (r : Run) (r_v0 : Value) (hr_0 : SL H 7 R_Section r_v0 r.Canopy.Frame.Sections) (r_v7 : Value) (hr_7 : SL H 2 R_Span r_v7 r.Canopy.Ribs) (r_v8 : Value) (hr_8 : SL H 1 RInt r_v8 r.Canopy.Shares) (r_v9 : Value) (hr_9 : SL H 3 R_Blow r_v9 r.Blows) (r_v10 : Value) (hr_10 : SL H 2 R_Meter r_v10 r.Meters) (forces : List Int) (forces_v0 : Value) (hforces_0 : SL H 1 RInt forces_v0 forces) (y : Int) (hF : F_ref13_Wrongs n r forces = some y) : SC Tryz.prog 51 [.agg [r_v0, .int .i64 r.Canopy.Frame.Low, .int .i64 r.Canopy.Frame.High, .int .i64 r.Canopy.Frame.Ease.Num, .int .i64 r.Canopy.Frame.Ease.Den, .int .i64 r.Canopy.Frame.Rod, .int .i64 r.Canopy.Frame.Case, r_v7, r_v8, r_v9, r_v10, .int .i64 r.Wrong].toArray, forces_v0] (.int .i64 y) H := by
 rw [F_ref13_Wrongs] at hF
 refine SC.of (N := 25) Tryz.func51 rfl rfl rfl fun w => ?_
 refine JC.seq ?_
 refine JC.region (by rfl) ?_
 intro hQ
 refine JL.box (cs := [r_v0, .int .i64 r.Canopy.Frame.Low, .int .i64 r.Canopy.Frame.High, .int .i64 r.Canopy.Frame.Ease.Num, .int .i64 r.Canopy.Frame.Ease.Den, .int .i64 r.Canopy.Frame.Rod, .int .i64 r.Canopy.Frame.Case, r_v7, r_v8, r_v9, r_v10, .int .i64 r.Wrong]) rfl .none rfl ?_
 intro b1
 refine JL.assign .none rfl ?_
 refine JL.done hQ ?_
 refine JQ.go ?_
 refine JC.seq ?_
 refine JC.region (by rfl) ?_
 intro hQ
 refine JL.assign .none rfl ?_
 refine JL.done hQ ?_
 refine JQ.go ?_
 refine JC.seq ?_
 refine JC.seq ?_
 refine JC.region (by rfl) ?_
 intro hQ
 refine JL.assign .none rfl ?_
 refine JL.done hQ ?_
 refine JQ.go ?_
 obtain ⟨r51, hlr51, hKr51⟩ := bind_some hF
 refine JC.join (fun (n_49 : Int) H50 f bs gs => f 5 = .int .i64 n_49 ∧ bs = [] ∧ gs = [] ∧ HSub H H50 ∧ n_49 = r51) ?_ ?_
 ·skip
  refine JC.block ?_
  refine JC.loop hlr51 (fun (x : Int × Int) H84 f bs gs => match x with | (n_82, i_83) => f 1 = forces_v0 ∧ f 2 = .pointer (some ⟨b1, 0, none⟩) ∧ f 5 = .int .i64 n_82 ∧ f 6 = .int .i64 i_83 ∧ bs = [(b1, .cells [r_v0, .int .i64 r.Canopy.Frame.Low, .int .i64 r.Canopy.Frame.High, .int .i64 r.Canopy.Frame.Ease.Num, .int .i64 r.Canopy.Frame.Ease.Den, .int .i64 r.Canopy.Frame.Rod, .int .i64 r.Canopy.Frame.Case, r_v7, r_v8, r_v9, r_v10, .int .i64 r.Wrong].toArray 34)] ∧ gs = [] ∧ HSub H H84) ⟨rfl, rfl, rfl, rfl, rfl, rfl, (HSub.refl _)⟩ ?_
  rintro ⟨n_82, i_83⟩ x86 H84 f bs gs ⟨hf1, hf2, hf5, hf6, rfl, rfl, hs84⟩ hF hr85
  rw [F_ref13_Wrongs_s1] at hF
  refine (JC.norm (i := 1) hf1 (JC.norm (i := 2) hf2 (JC.norm (i := 5) hf5 (JC.norm (i := 6) hf6 ?_))))
  refine JC.seq ?_
  refine JC.seq ?_
  refine JC.region (by rfl) ?_
  intro hQ
  refine JL.move .none rfl ?_
  refine JL.fieldAddr fo_34_2 rfl .none rfl ?_
  refine JL.loadOwn 0 az_32 rfl rfl rfl .none rfl ?_
  refine JL.lenSL (R := R_Meter) ul_32 (SL.mono R_Meter_mono hs84 hr_10) .none rfl ?_
  refine JL.bin rfl rfl rfl .none rfl ?_
  refine JL.done hQ ?_
  refine JQ.go ?_
  rcases ite_some hF with ⟨hc87, hF⟩ | ⟨hc87, hF⟩
  ·refine JC.cond_t (b := decide (i_83 < (r.Meters.length : Int))) rfl hc87 ?_
   refine JC.skip ?_
   refine JQ.go ?_
   refine JC.seq ?_
   refine JC.block ?_
   refine JC.seq ?_
   refine JC.region (by rfl) ?_
   intro hQ
   refine JL.fieldAddr fo_34_2 rfl .none rfl ?_
   refine JL.loadOwn 0 az_32 rfl rfl rfl .none rfl ?_
   refine JL.move .none rfl ?_
   obtain ⟨y88, hy88, hF⟩ := bind_some hF
   refine JL.indexSL (R := R_Meter) sl_32 (SL.mono R_Meter_mono hs84 hr_10) rfl hy88 .none rfl ?_
   rintro b89 o90 cs91 hc92 - rfl
   refine JL.loadH 0 az_73 rfl hc92 rfl .none rfl ?_
   refine JL.move .none rfl ?_
   obtain ⟨y93, hy93, hF⟩ := bind_some hF
   refine JL.callS (c_ref13_IsRight n H84 y88 forces forces_v0 (SL.mono RInt.mono hs84 hforces_0) y93 hy93) rfl en_26 .none rfl ?_
   refine JL.not rfl .none rfl ?_
   refine JL.done hQ ?_
   refine JQ.go ?_
   refine JC.fresh (fun f => f 1 = forces_v0 ∧ f 2 = .pointer (some ⟨b1, 0, none⟩) ∧ f 5 = .int .i64 n_82 ∧ f 6 = .int .i64 i_83 ∧ f 21 = .bool (!y93)) ⟨rfl, rfl, rfl, rfl, rfl⟩ ?_
   rintro f ⟨hf1, hf2, hf5, hf6, hf21⟩
   refine (JC.norm (i := 1) hf1 (JC.norm (i := 2) hf2 (JC.norm (i := 5) hf5 (JC.norm (i := 6) hf6 (JC.norm (i := 21) hf21 ?_)))))
   obtain ⟨r97, hlr97, hKr97⟩ := bind_some hF
   refine JC.join (fun (n_95 : Int) H96 f bs gs => f 1 = forces_v0 ∧ f 2 = .pointer (some ⟨b1, 0, none⟩) ∧ f 5 = .int .i64 n_95 ∧ f 6 = .int .i64 i_83 ∧ bs = [(b1, .cells [r_v0, .int .i64 r.Canopy.Frame.Low, .int .i64 r.Canopy.Frame.High, .int .i64 r.Canopy.Frame.Ease.Num, .int .i64 r.Canopy.Frame.Ease.Den, .int .i64 r.Canopy.Frame.Rod, .int .i64 r.Canopy.Frame.Case, r_v7, r_v8, r_v9, r_v10, .int .i64 r.Wrong].toArray 34)] ∧ gs = [] ∧ HSub H84 H96 ∧ n_95 = r97) ?_ ?_
   ·have hF := hlr97
    rcases ite_some hF with ⟨hc98, hF⟩ | ⟨hc98, hF⟩
    ·refine JC.cond_t (b := (!y93)) rfl hc98 ?_
     refine JC.region (by rfl) ?_
     intro hQ
     refine JL.move .none rfl ?_
     refine JL.bin rfl rfl rfl .none rfl ?_
     refine JL.assign .none rfl ?_
     refine JL.done hQ ?_
     obtain rfl := Option.some.inj hF
     exact JQ.join (w64 (n_82 + 1)) ⟨rfl, rfl, rfl, rfl, rfl, rfl, (HSub.refl _), rfl⟩
    ·refine JC.cond_f (b := (!y93)) rfl hc98 ?_
     refine JC.skip ?_
     obtain rfl := Option.some.inj hF
     exact JQ.join n_82 ⟨rfl, rfl, rfl, rfl, rfl, rfl, (HSub.refl _), rfl⟩
   ·rintro n_95 H96 f bs gs ⟨hf1, hf2, hf5, hf6, rfl, rfl, hs96, rfl⟩
    have hF := hKr97
    try dsimp only at hF
    refine (JQ.norm (i := 1) hf1 (JQ.norm (i := 2) hf2 (JQ.norm (i := 5) hf5 (JQ.norm (i := 6) hf6 ?_))))
    refine JQ.normal_block ?_
    refine JQ.go ?_
    refine JC.region (by rfl) ?_
    intro hQ
    refine JL.move .none rfl ?_
    refine JL.bin rfl rfl rfl .none rfl ?_
    refine JL.assign .none rfl ?_
    refine JL.done hQ ?_
    obtain rfl := Option.some.inj hF
    exact JQ.next rfl ⟨rfl, rfl, rfl, rfl, rfl, rfl, (HSub.trans hs84 hs96)⟩
  ·refine JC.cond_f (b := decide (i_83 < (r.Meters.length : Int))) rfl hc87 ?_
   refine JC.exit ?_
   refine JQ.exit_then ?_
   refine JQ.exit_then ?_
   refine JQ.exit_block ?_
   obtain rfl := Option.some.inj hF
   have ehr85 := hr85 _ rfl
   subst ehr85
   refine JQ.mask [false] [] ?_
   exact JQ.join n_82 ⟨rfl, rfl, rfl, hs84, rfl⟩
 ·rintro n_49 H50 f bs gs ⟨hf5, rfl, rfl, hs50, rfl⟩
  have hF := hKr51
  try dsimp only at hF
  refine (JQ.norm (i := 5) hf5 ?_)
  refine JQ.go ?_
  refine JC.seq ?_
  refine JC.region (by rfl) ?_
  intro hQ
  refine JL.move .none rfl ?_
  refine JL.assign .none rfl ?_
  refine JL.done hQ ?_
  refine JQ.go ?_
  refine JC.ret ?_
  obtain rfl := Option.some.inj hF
  exact JQ.outS rfl (.tmp .nil) rfl
-- 30 ferrule/ferruleref13.Fewest
def F_ref13_Fewest_s1 (n : Nat) (r : Run) (y4 : (List (List Int))) : Int × Int → Option ((Int × Int) ⊕ Int)
 | (n_91, i_92) => if decide (i_92 < (y4.length : Int)) = true then ((geti y4 i_92).bind fun y103 => (F_ref13_Wrongs n r y103).bind fun y108 => some (Sum.inl ((min n_91 y108), (w64 (i_92 + 1))))) else (some (Sum.inr n_91))
def F_ref13_Fewest (n : Nat) (r : Run) : Option (Int × Int) :=
 (F_ref13_Check n r).bind fun y2 => if (y2 != 0) = true then (some (0, y2)) else ((F_ref13_cases n r ([] : List Int)).bind fun y4 => (loopO n (F_ref13_Fewest_s1 n r y4) ((r.Meters.length : Int), 0)).bind fun n_56 => some (n_56, 0))
set_option maxRecDepth 100000 in
set_option maxHeartbeats 40000000 in
theorem c_ref13_Fewest (n : Nat) (H : Hp) (r : Run) (r_v0 : Value) (hr_0 : SL H 7 R_Section r_v0 r.Canopy.Frame.Sections) (r_v7 : Value) (hr_7 : SL H 2 R_Span r_v7 r.Canopy.Ribs) (r_v8 : Value) (hr_8 : SL H 1 RInt r_v8 r.Canopy.Shares) (r_v9 : Value) (hr_9 : SL H 3 R_Blow r_v9 r.Blows) (r_v10 : Value) (hr_10 : SL H 2 R_Meter r_v10 r.Meters) (y : Int × Int) (hF : F_ref13_Fewest n r = some y) : SC Tryz.prog 30 [.agg [r_v0, .int .i64 r.Canopy.Frame.Low, .int .i64 r.Canopy.Frame.High, .int .i64 r.Canopy.Frame.Ease.Num, .int .i64 r.Canopy.Frame.Ease.Den, .int .i64 r.Canopy.Frame.Rod, .int .i64 r.Canopy.Frame.Case, r_v7, r_v8, r_v9, r_v10, .int .i64 r.Wrong].toArray] (.tuple [.int .i64 y.1, .int .i64 y.2].toArray) H := by
 rw [F_ref13_Fewest] at hF
 refine SC.of (N := 33) Tryz.func30 rfl rfl rfl fun w => ?_
 refine JC.seq ?_
 refine JC.region (by rfl) ?_
 intro hQ
 refine JL.box (cs := [r_v0, .int .i64 r.Canopy.Frame.Low, .int .i64 r.Canopy.Frame.High, .int .i64 r.Canopy.Frame.Ease.Num, .int .i64 r.Canopy.Frame.Ease.Den, .int .i64 r.Canopy.Frame.Rod, .int .i64 r.Canopy.Frame.Case, r_v7, r_v8, r_v9, r_v10, .int .i64 r.Wrong]) rfl .none rfl ?_
 intro b1
 refine JL.assign .none rfl ?_
 refine JL.assign .none rfl ?_
 refine JL.done hQ ?_
 refine JQ.go ?_
 refine JC.seq ?_
 refine JC.seq ?_
 refine JC.region (by rfl) ?_
 intro hQ
 refine JL.loadOwn 0 az_34 rfl rfl rfl .none rfl ?_
 obtain ⟨y2, hy2, hF⟩ := bind_some hF
 refine JL.callS (c_ref13_Check n H r r_v0 hr_0 r_v7 hr_7 r_v8 hr_8 r_v9 hr_9 r_v10 hr_10 y2 hy2) rfl en_28 .none rfl ?_
 refine JL.assign .none rfl ?_
 refine JL.done hQ ?_
 refine JQ.go ?_
 refine JC.seq ?_
 refine JC.region (by rfl) ?_
 intro hQ
 refine JL.move .none rfl ?_
 refine JL.bin rfl rfl rfl .none rfl ?_
 refine JL.done hQ ?_
 refine JQ.go ?_
 rcases ite_some hF with ⟨hc3, hF⟩ | ⟨hc3, hF⟩
 ·refine JC.cond_t (b := (y2 != 0)) rfl hc3 ?_
  refine JC.seq ?_
  refine JC.region (by rfl) ?_
  intro hQ
  refine JL.move .none rfl ?_
  refine JL.assign .none rfl ?_
  refine JL.assign .none rfl ?_
  refine JL.done hQ ?_
  refine JQ.go ?_
  refine JC.ret ?_
  refine JQ.ret_then ?_
  obtain rfl := Option.some.inj hF
  exact JQ.outS rfl (.tmp (.tmp .nil)) rfl
 ·refine JC.cond_f (b := (y2 != 0)) rfl hc3 ?_
  refine JC.skip ?_
  refine JQ.go ?_
  refine JC.seq ?_
  refine JC.region (by rfl) ?_
  intro hQ
  refine JL.fieldAddr fo_34_2 rfl .none rfl ?_
  refine JL.loadOwn 0 az_32 rfl rfl rfl .none rfl ?_
  refine JL.lenSL (R := R_Meter) ul_32 hr_10 .none rfl ?_
  refine JL.assign .none rfl ?_
  refine JL.done hQ ?_
  refine JQ.go ?_
  refine JC.seq ?_
  refine JC.region (by rfl) ?_
  intro hQ
  refine JL.loadOwn 0 az_34 rfl rfl rfl .none rfl ?_
  obtain ⟨y4, hy4, hF⟩ := bind_some hF
  refine JL.callH (c_ref13_cases n H r r_v0 hr_0 r_v7 hr_7 r_v8 hr_8 r_v9 hr_9 r_v10 hr_10 ([] : List Int) (.slice none 0 0) SL.nil y4 hy4) rfl en_70 .none rfl ?_
  intro H5 y4a_v0 hs5 hy4a_0
  refine JL.assign .none rfl ?_
  refine JL.done hQ ?_
  refine JQ.go ?_
  refine JC.fresh (fun f => f 1 = .pointer (some ⟨b1, 0, none⟩) ∧ f 2 = .int .i64 0 ∧ f 3 = .int .i64 0 ∧ f 5 = .int .i64 (r.Meters.length : Int) ∧ f 6 = y4a_v0) ⟨rfl, rfl, rfl, rfl, rfl⟩ ?_
  rintro f ⟨hf1, hf2, hf3, hf5, hf6⟩
  refine (JC.norm (i := 1) hf1 (JC.norm (i := 2) hf2 (JC.norm (i := 3) hf3 (JC.norm (i := 5) hf5 (JC.norm (i := 6) hf6 ?_)))))
  refine JC.seq ?_
  refine JC.seq ?_
  refine JC.region (by rfl) ?_
  intro hQ
  refine JL.assign .none rfl ?_
  refine JL.done hQ ?_
  refine JQ.go ?_
  obtain ⟨r58, hlr58, hKr58⟩ := bind_some hF
  refine JC.join (fun (n_56 : Int) H57 f bs gs => f 5 = .int .i64 n_56 ∧ bs = [] ∧ gs = [] ∧ HSub H5 H57 ∧ n_56 = r58) ?_ ?_
  ·skip
   refine JC.block ?_
   refine JC.loop hlr58 (fun (x : Int × Int) H93 f bs gs => match x with | (n_91, i_92) => f 1 = .pointer (some ⟨b1, 0, none⟩) ∧ f 5 = .int .i64 n_91 ∧ f 6 = y4a_v0 ∧ f 7 = .int .i64 i_92 ∧ bs = [(b1, .cells [r_v0, .int .i64 r.Canopy.Frame.Low, .int .i64 r.Canopy.Frame.High, .int .i64 r.Canopy.Frame.Ease.Num, .int .i64 r.Canopy.Frame.Ease.Den, .int .i64 r.Canopy.Frame.Rod, .int .i64 r.Canopy.Frame.Case, r_v7, r_v8, r_v9, r_v10, .int .i64 r.Wrong].toArray 34)] ∧ gs = [] ∧ HSub H5 H93) ⟨rfl, rfl, rfl, rfl, rfl, rfl, (HSub.refl _)⟩ ?_
   rintro ⟨n_91, i_92⟩ x95 H93 f bs gs ⟨hf1, hf5, hf6, hf7, rfl, rfl, hs93⟩ hF hr94
   rw [F_ref13_Fewest_s1] at hF
   refine (JC.norm (i := 1) hf1 (JC.norm (i := 5) hf5 (JC.norm (i := 6) hf6 (JC.norm (i := 7) hf7 ?_))))
   refine JC.seq ?_
   refine JC.seq ?_
   refine JC.region (by rfl) ?_
   intro hQ
   refine JL.move .none rfl ?_
   refine JL.move .none rfl ?_
   refine JL.lenSL (R := (RSl 1 RInt)) ul_84 (SL.mono (RSl.mono RInt.mono) hs93 hy4a_0) .none rfl ?_
   refine JL.bin rfl rfl rfl .none rfl ?_
   refine JL.done hQ ?_
   refine JQ.go ?_
   rcases ite_some hF with ⟨hc96, hF⟩ | ⟨hc96, hF⟩
   ·refine JC.cond_t (b := decide (i_92 < (y4.length : Int))) rfl hc96 ?_
    refine JC.skip ?_
    refine JQ.go ?_
    refine JC.seq ?_
    refine JC.block ?_
    refine JC.draw (by rfl) mo_ (by kernel_rfl) ?_
    intro hQ
    refine JL.move .none rfl ?_
    refine JL.loadOwn 0 az_34 rfl rfl rfl .none rfl ?_
    refine JL.move .none rfl ?_
    refine JL.move .none rfl ?_
    obtain ⟨y103, hy103, hF⟩ := bind_some hF
    refine JL.indexSL (R := (RSl 1 RInt)) sl_84 (SL.mono (RSl.mono RInt.mono) hs93 hy4a_0) rfl hy103 .none rfl ?_
    rintro b104 o105 cs106 hc107 - ⟨y103_v0, rfl, hy103_0⟩
    refine JL.loadH 0 az_28 rfl hc107 rfl .none rfl ?_
    obtain ⟨y108, hy108, hF⟩ := bind_some hF
    refine JL.callS (c_ref13_Wrongs n H93 r r_v0 (SL.mono R_Section_mono (HSub.trans hs5 hs93) hr_0) r_v7 (SL.mono R_Span_mono (HSub.trans hs5 hs93) hr_7) r_v8 (SL.mono RInt.mono (HSub.trans hs5 hs93) hr_8) r_v9 (SL.mono R_Blow_mono (HSub.trans hs5 hs93) hr_9) r_v10 (SL.mono R_Meter_mono (HSub.trans hs5 hs93) hr_10) y103 y103_v0 hy103_0 y108 hy108) rfl en_51 .none rfl ?_
    refine JL.min rfl rfl .none rfl ?_
    refine JL.assign .none rfl ?_
    refine JL.doneQ hQ ?_
    refine JQ.normal_block ?_
    refine JQ.go ?_
    refine JC.fresh (fun f => f 1 = .pointer (some ⟨b1, 0, none⟩) ∧ f 5 = .int .i64 (min n_91 y108) ∧ f 6 = y4a_v0 ∧ f 7 = .int .i64 i_92) ⟨rfl, rfl, rfl, rfl⟩ ?_
    rintro f ⟨hf1, hf5, hf6, hf7⟩
    refine (JC.norm (i := 1) hf1 (JC.norm (i := 5) hf5 (JC.norm (i := 6) hf6 (JC.norm (i := 7) hf7 ?_))))
    refine JC.region (by rfl) ?_
    intro hQ
    refine JL.move .none rfl ?_
    refine JL.bin rfl rfl rfl .none rfl ?_
    refine JL.assign .none rfl ?_
    refine JL.done hQ ?_
    obtain rfl := Option.some.inj hF
    exact JQ.next rfl ⟨rfl, rfl, rfl, rfl, rfl, rfl, hs93⟩
   ·refine JC.cond_f (b := decide (i_92 < (y4.length : Int))) rfl hc96 ?_
    refine JC.exit ?_
    refine JQ.exit_then ?_
    refine JQ.exit_then ?_
    refine JQ.exit_block ?_
    obtain rfl := Option.some.inj hF
    have ehr94 := hr94 _ rfl
    subst ehr94
    refine JQ.mask [false] [] ?_
    exact JQ.join n_91 ⟨rfl, rfl, rfl, hs93, rfl⟩
  ·rintro n_56 H57 f bs gs ⟨hf5, rfl, rfl, hs57, rfl⟩
   have hF := hKr58
   try dsimp only at hF
   refine (JQ.norm (i := 5) hf5 ?_)
   refine JQ.go ?_
   refine JC.seq ?_
   refine JC.region (by rfl) ?_
   intro hQ
   refine JL.move .none rfl ?_
   refine JL.assign .none rfl ?_
   refine JL.assign .none rfl ?_
   refine JL.done hQ ?_
   refine JQ.go ?_
   refine JC.ret ?_
   obtain rfl := Option.some.inj hF
   exact JQ.outS rfl (.tmp (.tmp .nil)) rfl
-- 76 ferrule/ferruleref13.truths
def F_ref13_truths_s1 (n : Nat) (r : Run) (y2 : (List (List Int))) : Int × List (List Int) → Option ((Int × List (List Int)) ⊕ (List (List Int)))
 | (i_306, out_307) => if decide (i_306 < (y2.length : Int)) = true then ((geti y2 i_306).bind fun y318 => (F_ref13_Wrongs n r y318).bind fun y323 => (if decide (y323 ≤ r.Wrong) = true then ((geti y2 i_306).bind fun y342 => (lim (out_307 ++ [y342])).bind fun l351 => some l351) else (some out_307)).bind fun out_338 => some (Sum.inl ((w64 (i_306 + 1)), out_338))) else (some (Sum.inr out_307))
def F_ref13_truths (n : Nat) (r : Run) : Option (List (List Int)) :=
 (F_ref13_cases n r ([] : List Int)).bind fun y2 => (loopO n (F_ref13_truths_s1 n r y2) (0, ([] : List (List Int)))).bind fun out_209 => some out_209
set_option maxRecDepth 100000 in
set_option maxHeartbeats 40000000 in
theorem c_ref13_truths (n : Nat) (H : Hp) (r : Run) (r_v0 : Value) (hr_0 : SL H 7 R_Section r_v0 r.Canopy.Frame.Sections) (r_v7 : Value) (hr_7 : SL H 2 R_Span r_v7 r.Canopy.Ribs) (r_v8 : Value) (hr_8 : SL H 1 RInt r_v8 r.Canopy.Shares) (r_v9 : Value) (hr_9 : SL H 3 R_Blow r_v9 r.Blows) (r_v10 : Value) (hr_10 : SL H 2 R_Meter r_v10 r.Meters) (y : (List (List Int))) (hF : F_ref13_truths n r = some y) : HC Tryz.prog 76 [.agg [r_v0, .int .i64 r.Canopy.Frame.Low, .int .i64 r.Canopy.Frame.High, .int .i64 r.Canopy.Frame.Ease.Num, .int .i64 r.Canopy.Frame.Ease.Den, .int .i64 r.Canopy.Frame.Rod, .int .i64 r.Canopy.Frame.Case, r_v7, r_v8, r_v9, r_v10, .int .i64 r.Wrong].toArray] H (fun H' ra_v0 => SL H' 1 (RSl 1 RInt) ra_v0 y) := by
 rw [F_ref13_truths] at hF
 refine HC.of (N := 31) Tryz.func76 rfl rfl rfl fun w => ?_
 refine JC.seq ?_
 refine JC.region (by rfl) ?_
 intro hQ
 refine JL.box (cs := [r_v0, .int .i64 r.Canopy.Frame.Low, .int .i64 r.Canopy.Frame.High, .int .i64 r.Canopy.Frame.Ease.Num, .int .i64 r.Canopy.Frame.Ease.Den, .int .i64 r.Canopy.Frame.Rod, .int .i64 r.Canopy.Frame.Case, r_v7, r_v8, r_v9, r_v10, .int .i64 r.Wrong]) rfl .none rfl ?_
 intro b1
 refine JL.assign .none rfl ?_
 refine JL.done hQ ?_
 refine JQ.go ?_
 refine JC.seq ?_
 refine JC.region (by rfl) ?_
 intro hQ
 refine JL.assign .none rfl ?_
 refine JL.done hQ ?_
 refine JQ.go ?_
 refine JC.seq ?_
 refine JC.region (by rfl) ?_
 intro hQ
 refine JL.loadOwn 0 az_34 rfl rfl rfl .none rfl ?_
 obtain ⟨y2, hy2, hF⟩ := bind_some hF
 refine JL.callH (c_ref13_cases n H r r_v0 hr_0 r_v7 hr_7 r_v8 hr_8 r_v9 hr_9 r_v10 hr_10 ([] : List Int) (.slice none 0 0) SL.nil y2 hy2) rfl en_70 .none rfl ?_
 intro H3 y2a_v0 hs3 hy2a_0
 refine JL.assign .none rfl ?_
 refine JL.done hQ ?_
 refine JQ.go ?_
 refine JC.seq ?_
 refine JC.seq ?_
 refine JC.region (by rfl) ?_
 intro hQ
 refine JL.assign .none rfl ?_
 refine JL.done hQ ?_
 refine JQ.go ?_
 refine JC.newNil (e := 28) (sz := 1) ?_
 obtain ⟨r211, hlr211, hKr211⟩ := bind_some hF
 refine JC.join (fun (out_209 : List (List Int)) H210 f bs gs => ∃ (vout_209 : Value) (xsout_209 : List Value), f 3 = vout_209 ∧ bs = [] ∧ gs = [⟨vout_209, 28, 1, out_209.length, xsout_209⟩] ∧ CH H210 1 (RSl 1 RInt) xsout_209 out_209 ∧ HSub H3 H210 ∧ out_209 = r211) ?_ ?_
 ·skip
  refine JC.block ?_
  refine JC.loop hlr211 (fun (x : Int × List (List Int)) H308 f bs gs => match x with | (i_306, out_307) => ∃ (vout_307 : Value) (xsout_307 : List Value), f 1 = .pointer (some ⟨b1, 0, none⟩) ∧ f 3 = vout_307 ∧ f 4 = y2a_v0 ∧ f 5 = .int .i64 i_306 ∧ bs = [(b1, .cells [r_v0, .int .i64 r.Canopy.Frame.Low, .int .i64 r.Canopy.Frame.High, .int .i64 r.Canopy.Frame.Ease.Num, .int .i64 r.Canopy.Frame.Ease.Den, .int .i64 r.Canopy.Frame.Rod, .int .i64 r.Canopy.Frame.Case, r_v7, r_v8, r_v9, r_v10, .int .i64 r.Wrong].toArray 34)] ∧ gs = [⟨vout_307, 28, 1, out_307.length, xsout_307⟩] ∧ CH H308 1 (RSl 1 RInt) xsout_307 out_307 ∧ HSub H3 H308) ⟨(.slice none 0 0), [], rfl, rfl, rfl, rfl, rfl, rfl, CH.nil, (HSub.refl _)⟩ ?_
  rintro ⟨i_306, out_307⟩ x310 H308 f bs gs ⟨vout_307, xsout_307, hf1, hf3, hf4, hf5, rfl, rfl, hout_307, hs308⟩ hF hr309
  rw [F_ref13_truths_s1] at hF
  refine (JC.norm (i := 1) hf1 (JC.norm (i := 3) hf3 (JC.norm (i := 4) hf4 (JC.norm (i := 5) hf5 ?_))))
  refine JC.seq ?_
  refine JC.seq ?_
  refine JC.region (by rfl) ?_
  intro hQ
  refine JL.move .none rfl ?_
  refine JL.move .none rfl ?_
  refine JL.lenSL (R := (RSl 1 RInt)) ul_84 (SL.mono (RSl.mono RInt.mono) hs308 hy2a_0) .none rfl ?_
  refine JL.bin rfl rfl rfl .none rfl ?_
  refine JL.done hQ ?_
  refine JQ.go ?_
  rcases ite_some hF with ⟨hc311, hF⟩ | ⟨hc311, hF⟩
  ·refine JC.cond_t (b := decide (i_306 < (y2.length : Int))) rfl hc311 ?_
   refine JC.skip ?_
   refine JQ.go ?_
   refine JC.seq ?_
   refine JC.block ?_
   refine JC.seq ?_
   refine JC.draw (by rfl) mo_ (by kernel_rfl) ?_
   intro hQ
   refine JL.loadOwn 0 az_34 rfl rfl rfl .none rfl ?_
   refine JL.move .none rfl ?_
   refine JL.move .none rfl ?_
   obtain ⟨y318, hy318, hF⟩ := bind_some hF
   refine JL.indexSL (R := (RSl 1 RInt)) sl_84 (SL.mono (RSl.mono RInt.mono) hs308 hy2a_0) rfl hy318 .none rfl ?_
   rintro b319 o320 cs321 hc322 - ⟨y318_v0, rfl, hy318_0⟩
   refine JL.loadH 0 az_28 rfl hc322 rfl .none rfl ?_
   obtain ⟨y323, hy323, hF⟩ := bind_some hF
   refine JL.callS (c_ref13_Wrongs n H308 r r_v0 (SL.mono R_Section_mono (HSub.trans hs3 hs308) hr_0) r_v7 (SL.mono R_Span_mono (HSub.trans hs3 hs308) hr_7) r_v8 (SL.mono RInt.mono (HSub.trans hs3 hs308) hr_8) r_v9 (SL.mono R_Blow_mono (HSub.trans hs3 hs308) hr_9) r_v10 (SL.mono R_Meter_mono (HSub.trans hs3 hs308) hr_10) y318 y318_v0 hy318_0 y323 hy323) rfl en_51 .none rfl ?_
   refine JL.fieldAddr fo_34_3 rfl .none rfl ?_
   refine JL.loadOwn 0 az_3 rfl rfl rfl .none rfl ?_
   refine JL.bin rfl rfl rfl .none rfl ?_
   refine JL.doneQ hQ ?_
   refine JQ.go ?_
   refine JC.fresh (fun f => f 1 = .pointer (some ⟨b1, 0, none⟩) ∧ f 3 = vout_307 ∧ f 4 = y2a_v0 ∧ f 5 = .int .i64 i_306 ∧ f 22 = .bool (decide (y323 ≤ r.Wrong))) ⟨rfl, rfl, rfl, rfl, rfl⟩ ?_
   rintro f ⟨hf1, hf3, hf4, hf5, hf22⟩
   refine (JC.norm (i := 1) hf1 (JC.norm (i := 3) hf3 (JC.norm (i := 4) hf4 (JC.norm (i := 5) hf5 (JC.norm (i := 22) hf22 ?_)))))
   obtain ⟨r340, hlr340, hKr340⟩ := bind_some hF
   refine JC.join (fun (out_338 : List (List Int)) H339 f bs gs => ∃ (vout_338 : Value) (xsout_338 : List Value), f 1 = .pointer (some ⟨b1, 0, none⟩) ∧ f 3 = vout_338 ∧ f 4 = y2a_v0 ∧ f 5 = .int .i64 i_306 ∧ bs = [(b1, .cells [r_v0, .int .i64 r.Canopy.Frame.Low, .int .i64 r.Canopy.Frame.High, .int .i64 r.Canopy.Frame.Ease.Num, .int .i64 r.Canopy.Frame.Ease.Den, .int .i64 r.Canopy.Frame.Rod, .int .i64 r.Canopy.Frame.Case, r_v7, r_v8, r_v9, r_v10, .int .i64 r.Wrong].toArray 34)] ∧ gs = [⟨vout_338, 28, 1, out_338.length, xsout_338⟩] ∧ CH H339 1 (RSl 1 RInt) xsout_338 out_338 ∧ HSub H308 H339 ∧ out_338 = r340) ?_ ?_
   ·have hF := hlr340
    rcases ite_some hF with ⟨hc341, hF⟩ | ⟨hc341, hF⟩
    ·refine JC.cond_t (b := decide (y323 ≤ r.Wrong)) rfl hc341 ?_
     refine JC.region (by rfl) ?_
     intro hQ
     refine JL.move .none rfl ?_
     refine JL.move .none rfl ?_
     refine JL.move .none rfl ?_
     obtain ⟨y342, hy342, hF⟩ := bind_some hF
     refine JL.indexSL (R := (RSl 1 RInt)) sl_84 (SL.mono (RSl.mono RInt.mono) hs308 hy2a_0) rfl hy342 .none rfl ?_
     rintro b343 o344 cs345 hc346 - ⟨y342_v0, rfl, hy342_0⟩
     refine JL.loadH 0 az_28 rfl hc346 rfl .none rfl ?_
     obtain ⟨a347, c348, rfl, hh349⟩ := hy342_0
     have hy342_0 : SL H308 1 RInt (.slice a347 y342.length c348) y342 := ⟨a347, c348, rfl, hh349⟩
     refine JL.buildSlice (e := 28) (l := [(.slice a347 y342.length c348)]) (by kernel_rfl) .none rfl ?_
     intro b350
     obtain ⟨l351, hl351, hF⟩ := bind_some hF
     refine JL.appO (R := (RSl 1 RInt)) 0 0 (l := out_307) (m := [y342]) ap_84 rfl ⟨rfl, rfl⟩ rfl hout_307 rfl rfl rfl (CH.cons (cs := [(.slice a347 y342.length c348)]) rfl ⟨_, rfl, hy342_0⟩ CH.nil) rfl (one_cons (SL.one hy342_0) one_nil) hl351 .none rfl ?_
     intro v352 xs353 hch354
     refine JL.assign .none rfl ?_
     refine JL.done hQ ?_
     obtain rfl := Option.some.inj hF
     refine JQ.mask [false, true] [true] ?_
     exact JQ.join l351 ⟨v352, xs353, rfl, rfl, rfl, rfl, rfl, rfl, hch354, (HSub.refl _), rfl⟩
    ·refine JC.cond_f (b := decide (y323 ≤ r.Wrong)) rfl hc341 ?_
     refine JC.skip ?_
     obtain rfl := Option.some.inj hF
     exact JQ.join out_307 ⟨vout_307, xsout_307, rfl, rfl, rfl, rfl, rfl, rfl, hout_307, (HSub.refl _), rfl⟩
   ·rintro out_338 H339 f bs gs ⟨vout_338, xsout_338, hf1, hf3, hf4, hf5, rfl, rfl, hout_338, hs339, rfl⟩
    have hF := hKr340
    try dsimp only at hF
    refine (JQ.norm (i := 1) hf1 (JQ.norm (i := 3) hf3 (JQ.norm (i := 4) hf4 (JQ.norm (i := 5) hf5 ?_))))
    refine JQ.normal_block ?_
    refine JQ.go ?_
    refine JC.region (by rfl) ?_
    intro hQ
    refine JL.move .none rfl ?_
    refine JL.bin rfl rfl rfl .none rfl ?_
    refine JL.assign .none rfl ?_
    refine JL.done hQ ?_
    obtain rfl := Option.some.inj hF
    exact JQ.next rfl ⟨vout_338, xsout_338, rfl, rfl, rfl, rfl, rfl, rfl, hout_338, (HSub.trans hs308 hs339)⟩
  ·refine JC.cond_f (b := decide (i_306 < (y2.length : Int))) rfl hc311 ?_
   refine JC.exit ?_
   refine JQ.exit_then ?_
   refine JQ.exit_then ?_
   refine JQ.exit_block ?_
   obtain rfl := Option.some.inj hF
   have ehr309 := hr309 _ rfl
   subst ehr309
   refine JQ.mask [false] [true] ?_
   exact JQ.join out_307 ⟨vout_307, xsout_307, rfl, rfl, rfl, hout_307, hs308, rfl⟩
 ·rintro out_209 H210 f bs gs ⟨vout_209, xsout_209, hf3, rfl, rfl, hout_209, hs210, rfl⟩
  have hF := hKr211
  try dsimp only at hF
  refine (JQ.norm (i := 3) hf3 ?_)
  refine JQ.go ?_
  refine JC.seq ?_
  refine JC.region (by rfl) ?_
  intro hQ
  refine JL.move .none rfl ?_
  refine JL.assign .none rfl ?_
  refine JL.done hQ ?_
  refine JQ.go ?_
  refine JC.ret ?_
  refine JQ.freezeG 0 (R := (RSl 1 RInt)) rfl (RSl.mono RInt.mono) hout_209 rfl ?_
  intro H355 hs355 hg356
  obtain rfl := Option.some.inj hF
  exact JQ.outH rfl (.tmp .nil) hg356
-- 43 ferrule/ferruleref13.known
def F_ref13_known (n : Nat) (r : Run) (is : Bool) : Option ((List (List Int)) × Int) :=
 (F_ref13_Check n r).bind fun y2 => if (y2 != 0) = true then (some (([] : List (List Int)), y2)) else (if (!is) = true then (some (([] : List (List Int)), 1)) else ((F_ref13_truths n r).bind fun y5 => if ((y5.length : Int) == 0) = true then (some (([] : List (List Int)), 3)) else (some (y5, 0))))
set_option maxRecDepth 100000 in
set_option maxHeartbeats 40000000 in
theorem c_ref13_known (n : Nat) (H : Hp) (r : Run) (r_v0 : Value) (hr_0 : SL H 7 R_Section r_v0 r.Canopy.Frame.Sections) (r_v7 : Value) (hr_7 : SL H 2 R_Span r_v7 r.Canopy.Ribs) (r_v8 : Value) (hr_8 : SL H 1 RInt r_v8 r.Canopy.Shares) (r_v9 : Value) (hr_9 : SL H 3 R_Blow r_v9 r.Blows) (r_v10 : Value) (hr_10 : SL H 2 R_Meter r_v10 r.Meters) (is : Bool) (y : (List (List Int)) × Int) (hF : F_ref13_known n r is = some y) : HC Tryz.prog 43 [.agg [r_v0, .int .i64 r.Canopy.Frame.Low, .int .i64 r.Canopy.Frame.High, .int .i64 r.Canopy.Frame.Ease.Num, .int .i64 r.Canopy.Frame.Ease.Den, .int .i64 r.Canopy.Frame.Rod, .int .i64 r.Canopy.Frame.Case, r_v7, r_v8, r_v9, r_v10, .int .i64 r.Wrong].toArray, .bool is] H (fun H' v => ∃ ra_v0 : Value, v = .tuple [ra_v0, .int .i64 y.2].toArray ∧ SL H' 1 (RSl 1 RInt) ra_v0 y.1) := by
 rw [F_ref13_known] at hF
 refine HC.of (N := 21) Tryz.func43 rfl rfl rfl fun w => ?_
 refine JC.seq ?_
 refine JC.region (by rfl) ?_
 intro hQ
 refine JL.box (cs := [r_v0, .int .i64 r.Canopy.Frame.Low, .int .i64 r.Canopy.Frame.High, .int .i64 r.Canopy.Frame.Ease.Num, .int .i64 r.Canopy.Frame.Ease.Den, .int .i64 r.Canopy.Frame.Rod, .int .i64 r.Canopy.Frame.Case, r_v7, r_v8, r_v9, r_v10, .int .i64 r.Wrong]) rfl .none rfl ?_
 intro b1
 refine JL.assign .none rfl ?_
 refine JL.assign .none rfl ?_
 refine JL.done hQ ?_
 refine JQ.go ?_
 refine JC.seq ?_
 refine JC.seq ?_
 refine JC.region (by rfl) ?_
 intro hQ
 refine JL.loadOwn 0 az_34 rfl rfl rfl .none rfl ?_
 obtain ⟨y2, hy2, hF⟩ := bind_some hF
 refine JL.callS (c_ref13_Check n H r r_v0 hr_0 r_v7 hr_7 r_v8 hr_8 r_v9 hr_9 r_v10 hr_10 y2 hy2) rfl en_28 .none rfl ?_
 refine JL.assign .none rfl ?_
 refine JL.done hQ ?_
 refine JQ.go ?_
 refine JC.seq ?_
 refine JC.region (by rfl) ?_
 intro hQ
 refine JL.move .none rfl ?_
 refine JL.bin rfl rfl rfl .none rfl ?_
 refine JL.done hQ ?_
 refine JQ.go ?_
 rcases ite_some hF with ⟨hc3, hF⟩ | ⟨hc3, hF⟩
 ·refine JC.cond_t (b := (y2 != 0)) rfl hc3 ?_
  refine JC.seq ?_
  refine JC.region (by rfl) ?_
  intro hQ
  refine JL.move .none rfl ?_
  refine JL.assign .none rfl ?_
  refine JL.assign .none rfl ?_
  refine JL.done hQ ?_
  refine JQ.go ?_
  refine JC.ret ?_
  refine JQ.ret_then ?_
  obtain rfl := Option.some.inj hF
  exact JQ.outH rfl (.tmp (.tmp .nil)) ⟨(.slice none 0 0), rfl, SL.nil⟩
 ·refine JC.cond_f (b := (y2 != 0)) rfl hc3 ?_
  refine JC.skip ?_
  refine JQ.go ?_
  refine JC.seq ?_
  refine JC.seq ?_
  refine JC.region (by rfl) ?_
  intro hQ
  refine JL.move .none rfl ?_
  refine JL.not rfl .none rfl ?_
  refine JL.done hQ ?_
  refine JQ.go ?_
  rcases ite_some hF with ⟨hc4, hF⟩ | ⟨hc4, hF⟩
  ·refine JC.cond_t (b := (!is)) rfl hc4 ?_
   refine JC.seq ?_
   refine JC.region (by rfl) ?_
   intro hQ
   refine JL.assign .none rfl ?_
   refine JL.assign .none rfl ?_
   refine JL.done hQ ?_
   refine JQ.go ?_
   refine JC.ret ?_
   refine JQ.ret_then ?_
   obtain rfl := Option.some.inj hF
   exact JQ.outH rfl (.tmp (.tmp .nil)) ⟨(.slice none 0 0), rfl, SL.nil⟩
  ·refine JC.cond_f (b := (!is)) rfl hc4 ?_
   refine JC.skip ?_
   refine JQ.go ?_
   refine JC.seq ?_
   refine JC.region (by rfl) ?_
   intro hQ
   refine JL.loadOwn 0 az_34 rfl rfl rfl .none rfl ?_
   obtain ⟨y5, hy5, hF⟩ := bind_some hF
   refine JL.callH (c_ref13_truths n H r r_v0 hr_0 r_v7 hr_7 r_v8 hr_8 r_v9 hr_9 r_v10 hr_10 y5 hy5) rfl en_76 .none rfl ?_
   intro H6 y5a_v0 hs6 hy5a_0
   refine JL.assign .none rfl ?_
   refine JL.done hQ ?_
   refine JQ.go ?_
   refine JC.fresh (fun f => f 4 = .slice none 0 0 ∧ f 5 = .int .i64 0 ∧ f 7 = y5a_v0) ⟨rfl, rfl, rfl⟩ ?_
   rintro f ⟨hf4, hf5, hf7⟩
   refine (JC.norm (i := 4) hf4 (JC.norm (i := 5) hf5 (JC.norm (i := 7) hf7 ?_)))
   refine JC.seq ?_
   refine JC.seq ?_
   refine JC.region (by rfl) ?_
   intro hQ
   refine JL.move .none rfl ?_
   refine JL.lenSL (R := (RSl 1 RInt)) ul_84 hy5a_0 .none rfl ?_
   refine JL.bin rfl rfl rfl .none rfl ?_
   refine JL.done hQ ?_
   refine JQ.go ?_
   rcases ite_some hF with ⟨hc7, hF⟩ | ⟨hc7, hF⟩
   ·refine JC.cond_t (b := ((y5.length : Int) == 0)) rfl hc7 ?_
    refine JC.seq ?_
    refine JC.region (by rfl) ?_
    intro hQ
    refine JL.assign .none rfl ?_
    refine JL.assign .none rfl ?_
    refine JL.done hQ ?_
    refine JQ.go ?_
    refine JC.ret ?_
    refine JQ.ret_then ?_
    obtain rfl := Option.some.inj hF
    exact JQ.outH rfl (.tmp (.tmp .nil)) ⟨(.slice none 0 0), rfl, SL.nil⟩
   ·refine JC.cond_f (b := ((y5.length : Int) == 0)) rfl hc7 ?_
    refine JC.skip ?_
    refine JQ.go ?_
    refine JC.seq ?_
    refine JC.region (by rfl) ?_
    intro hQ
    refine JL.move .none rfl ?_
    refine JL.assign .none rfl ?_
    refine JL.assign .none rfl ?_
    refine JL.done hQ ?_
    refine JQ.go ?_
    refine JC.ret ?_
    obtain rfl := Option.some.inj hF
    exact JQ.outH rfl (.tmp (.tmp .nil)) ⟨y5a_v0, rfl, hy5a_0⟩
end Go.Proofs.YtcipdblhopffbaaGreat
end
section
namespace Go.Proofs.YtcipdblhopffbaaGreat
open Go Go.RowKit Go.Dec
set_option linter.unusedVariables false
-- 31 ferrule/ferruleref13.Forces
def F_ref13_Forces_s2 (n : Nat) (blow : Int) (y5 : (List (List Int)) × Int) (n_829 : Int) (out_830 : List Int) : Int → Option (Int ⊕ (List Int))
 | i_935 => if decide (i_935 < (y5.1.length : Int)) = true then ((geti y5.1 i_935).bind fun y940 => (geti y940 blow).bind fun y945 => if (y945 == n_829) = true then ((lim (out_830 ++ [n_829])).bind fun l952 => some (Sum.inr l952)) else (some (Sum.inl (w64 (i_935 + 1))))) else (some (Sum.inr out_830))
def F_ref13_Forces_s1 (n : Nat) (blow : Int) (y5 : (List (List Int)) × Int) : Int × List Int → Option ((Int × List Int) ⊕ (List Int))
 | (n_829, out_830) => if decide (n_829 ≤ 99) = true then ((loopO n (F_ref13_Forces_s2 n blow y5 n_829 out_830) 0).bind fun out_894 => some (Sum.inl ((w64 (n_829 + 1)), out_894))) else (some (Sum.inr out_830))
def F_ref13_Forces (n : Nat) (r : Run) (blow : Int) : Option ((List Int) × Int) :=
 (F_ref13_within n blow 0 (w64 ((r.Blows.length : Int) - 1))).bind fun y4 => (F_ref13_known n r y4).bind fun y5 => (loopO n (F_ref13_Forces_s1 n blow y5) (0, ([] : List Int))).bind fun out_576 => some (out_576, y5.2)
set_option maxRecDepth 100000 in
set_option maxHeartbeats 40000000 in
theorem c_ref13_Forces (n : Nat) (H : Hp) (r : Run) (r_v0 : Value) (hr_0 : SL H 7 R_Section r_v0 r.Canopy.Frame.Sections) (r_v7 : Value) (hr_7 : SL H 2 R_Span r_v7 r.Canopy.Ribs) (r_v8 : Value) (hr_8 : SL H 1 RInt r_v8 r.Canopy.Shares) (r_v9 : Value) (hr_9 : SL H 3 R_Blow r_v9 r.Blows) (r_v10 : Value) (hr_10 : SL H 2 R_Meter r_v10 r.Meters) (blow : Int) (y : (List Int) × Int) (hF : F_ref13_Forces n r blow = some y) : HC Tryz.prog 31 [.agg [r_v0, .int .i64 r.Canopy.Frame.Low, .int .i64 r.Canopy.Frame.High, .int .i64 r.Canopy.Frame.Ease.Num, .int .i64 r.Canopy.Frame.Ease.Den, .int .i64 r.Canopy.Frame.Rod, .int .i64 r.Canopy.Frame.Case, r_v7, r_v8, r_v9, r_v10, .int .i64 r.Wrong].toArray, .int .i64 blow] H (fun H' v => ∃ ra_v0 : Value, v = .tuple [ra_v0, .int .i64 y.2].toArray ∧ SL H' 1 RInt ra_v0 y.1) := by
 rw [F_ref13_Forces] at hF
 refine HC.of (N := 47) Tryz.func31 rfl rfl rfl fun w => ?_
 refine JC.seq ?_
 refine JC.region (by rfl) ?_
 intro hQ
 refine JL.box (cs := [r_v0, .int .i64 r.Canopy.Frame.Low, .int .i64 r.Canopy.Frame.High, .int .i64 r.Canopy.Frame.Ease.Num, .int .i64 r.Canopy.Frame.Ease.Den, .int .i64 r.Canopy.Frame.Rod, .int .i64 r.Canopy.Frame.Case, r_v7, r_v8, r_v9, r_v10, .int .i64 r.Wrong]) rfl .none rfl ?_
 intro b1
 refine JL.assign .none rfl ?_
 refine JL.assign .none rfl ?_
 refine JL.done hQ ?_
 refine JQ.go ?_
 refine JC.seq ?_
 obtain ⟨y4, hy4, hF⟩ := bind_some hF
 obtain ⟨y5, hy5, hF⟩ := bind_some hF
 refine JC.mixed 13 13 #[false, false, false, false, false, false, false, false, false, false, false, false, false] [(b1, .cells [r_v0, .int .i64 r.Canopy.Frame.Low, .int .i64 r.Canopy.Frame.High, .int .i64 r.Canopy.Frame.Ease.Num, .int .i64 r.Canopy.Frame.Ease.Den, .int .i64 r.Canopy.Frame.Rod, .int .i64 r.Canopy.Frame.Case, r_v7, r_v8, r_v9, r_v10, .int .i64 r.Wrong].toArray 34)] (by rfl) mo_ (by kernel_rfl) (by kernel_rfl) ?_
 intro hQ hE
 refine JA.take 0 (listed' := #[true, false, false, false, false, false, false, false, false, false, false, false, false]) hQ rfl (by kernel_rfl) (by kernel_rfl) (by kernel_rfl) (by kernel_rfl) (by kernel_rfl) hE (HSub.refl _) (.cons_cons _ (List.nil_sublist _)) ?_
 refine JL.loadOwn 0 az_34 rfl rfl rfl .none rfl ?_
 refine JA.cont ?_
 refine JA.take 1 (listed' := #[true, true, false, false, false, false, false, false, false, false, false, false, false]) hQ rfl (by kernel_rfl) (by kernel_rfl) (by kernel_rfl) (by kernel_rfl) (by kernel_rfl) hE (HSub.refl _) (.cons_cons _ (List.nil_sublist _)) ?_
 refine JL.move .none rfl ?_
 refine JA.cont ?_
 refine JA.take 2 (listed' := #[true, true, true, false, false, false, false, false, false, false, false, false, false]) hQ rfl (by kernel_rfl) (by kernel_rfl) (by kernel_rfl) (by kernel_rfl) (by kernel_rfl) hE (HSub.refl _) (.cons_cons _ (List.nil_sublist _)) ?_
 refine JL.fieldAddr fo_34_1 rfl .none rfl ?_
 refine JA.cont ?_
 refine JA.take 3 (listed' := #[true, true, true, true, false, false, false, false, false, false, false, false, false]) hQ rfl (by kernel_rfl) (by kernel_rfl) (by kernel_rfl) (by kernel_rfl) (by kernel_rfl) hE (HSub.refl _) (.cons_cons _ (List.nil_sublist _)) ?_
 refine JL.loadOwn 0 az_31 rfl rfl rfl .none rfl ?_
 refine JA.cont ?_
 refine JA.take 4 (listed' := #[true, true, true, true, true, false, false, false, false, false, false, false, false]) hQ rfl (by kernel_rfl) (by kernel_rfl) (by kernel_rfl) (by kernel_rfl) (by kernel_rfl) hE (HSub.refl _) (.cons_cons _ (List.nil_sublist _)) ?_
 refine JL.lenSL (R := R_Blow) ul_31 hr_9 .none rfl ?_
 refine JA.cont ?_
 refine JA.take 5 (listed' := #[true, true, true, true, true, true, false, false, false, false, false, false, false]) hQ rfl (by kernel_rfl) (by kernel_rfl) (by kernel_rfl) (by kernel_rfl) (by kernel_rfl) hE (HSub.refl _) (.cons_cons _ (List.nil_sublist _)) ?_
 refine JL.bin rfl rfl rfl .none rfl ?_
 refine JA.cont ?_
 refine JA.many [6] (by kernel_rfl) (by simp) (all_one ⟨_, #[true, true, true, true, true, true, true, false, false, false, false, false, false], rfl, (by kernel_rfl), ?_⟩)
 refine JL.callS (c_ref13_within n H blow 0 (w64 ((r.Blows.length : Int) - 1)) y4 hy4) rfl en_66 .none rfl ?_
 refine JA.after hE (HSub.refl _) (.cons_cons _ (List.nil_sublist _)) ?_
 refine JA.many [7] (by kernel_rfl) (by simp) (all_one ⟨_, #[true, true, true, true, true, true, true, true, false, false, false, false, false], rfl, (by kernel_rfl), ?_⟩)
 refine JL.callH (c_ref13_known n H r r_v0 hr_0 r_v7 hr_7 r_v8 hr_8 r_v9 hr_9 r_v10 hr_10 y4 y5 hy5) rfl en_43 .none rfl ?_
 rintro H10 vv11 hs10 ⟨y5a_v0, rfl, hy5a_0⟩
 refine JA.after hE hs10 (.cons_cons _ (List.nil_sublist _)) ?_
 refine JA.take 8 (listed' := #[true, true, true, true, true, true, true, true, true, false, false, false, false]) hQ rfl (by kernel_rfl) (by kernel_rfl) (by kernel_rfl) (by kernel_rfl) (by kernel_rfl) hE hs10 (.cons_cons _ (List.nil_sublist _)) ?_
 refine JL.move .none rfl ?_
 refine JA.cont ?_
 refine JA.take 9 (listed' := #[true, true, true, true, true, true, true, true, true, true, false, false, false]) hQ rfl (by kernel_rfl) (by kernel_rfl) (by kernel_rfl) (by kernel_rfl) (by kernel_rfl) hE hs10 (.cons_cons _ (List.nil_sublist _)) ?_
 refine JL.extract rfl rfl .none rfl ?_
 refine JA.cont ?_
 refine JA.take 10 (listed' := #[true, true, true, true, true, true, true, true, true, true, true, false, false]) hQ rfl (by kernel_rfl) (by kernel_rfl) (by kernel_rfl) (by kernel_rfl) (by kernel_rfl) hE hs10 (.cons_cons _ (List.nil_sublist _)) ?_
 refine JL.extract rfl rfl .none rfl ?_
 refine JA.cont ?_
 refine JA.take 11 (listed' := #[true, true, true, true, true, true, true, true, true, true, true, true, false]) hQ rfl (by kernel_rfl) (by kernel_rfl) (by kernel_rfl) (by kernel_rfl) (by kernel_rfl) hE hs10 (.cons_cons _ (List.nil_sublist _)) ?_
 refine JL.assign .none rfl ?_
 refine JA.cont ?_
 refine JA.take 12 (listed' := #[true, true, true, true, true, true, true, true, true, true, true, true, true]) hQ rfl (by kernel_rfl) (by kernel_rfl) (by kernel_rfl) (by kernel_rfl) (by kernel_rfl) hE hs10 (.cons_cons _ (List.nil_sublist _)) ?_
 refine JL.assign .none rfl ?_
 refine JA.cont ?_
 refine JA.done hQ (by kernel_rfl) ?_
 refine JQ.go ?_
 refine JC.fresh (fun f => f 1 = .int .i64 blow ∧ f 4 = .slice none 0 0 ∧ f 5 = .int .i64 0 ∧ f 6 = y5a_v0 ∧ f 7 = .int .i64 y5.2) ⟨rfl, rfl, rfl, rfl, rfl⟩ ?_
 rintro f ⟨hf1, hf4, hf5, hf6, hf7⟩
 refine (JC.norm (i := 1) hf1 (JC.norm (i := 4) hf4 (JC.norm (i := 5) hf5 (JC.norm (i := 6) hf6 (JC.norm (i := 7) hf7 ?_)))))
 refine JC.seq ?_
 refine JC.region (by rfl) ?_
 intro hQ
 refine JL.assign .none rfl ?_
 refine JL.done hQ ?_
 refine JQ.go ?_
 refine JC.seq ?_
 refine JC.seq ?_
 refine JC.region (by rfl) ?_
 intro hQ
 refine JL.assign .none rfl ?_
 refine JL.done hQ ?_
 refine JQ.go ?_
 refine JC.newNil (e := 3) (sz := 1) ?_
 obtain ⟨r578, hlr578, hKr578⟩ := bind_some hF
 refine JC.join (fun (out_576 : List Int) H577 f bs gs => ∃ (vout_576 : Value) (xsout_576 : List Value), f 7 = .int .i64 y5.2 ∧ f 8 = vout_576 ∧ bs = [] ∧ gs = [⟨vout_576, 3, 1, out_576.length, xsout_576⟩] ∧ CH H577 1 RInt xsout_576 out_576 ∧ HSub H10 H577 ∧ out_576 = r578) ?_ ?_
 ·skip
  refine JC.block ?_
  refine JC.mask [false] [true] ?_
  refine JC.loop hlr578 (fun (x : Int × List Int) H831 f bs gs => match x with | (n_829, out_830) => ∃ (vout_830 : Value) (xsout_830 : List Value), f 1 = .int .i64 blow ∧ f 6 = y5a_v0 ∧ f 7 = .int .i64 y5.2 ∧ f 8 = vout_830 ∧ f 9 = .int .i64 n_829 ∧ bs = [] ∧ gs = [⟨vout_830, 3, 1, out_830.length, xsout_830⟩] ∧ CH H831 1 RInt xsout_830 out_830 ∧ HSub H10 H831) ⟨(.slice none 0 0), [], rfl, rfl, rfl, rfl, rfl, rfl, rfl, CH.nil, (HSub.refl _)⟩ ?_
  rintro ⟨n_829, out_830⟩ x833 H831 f bs gs ⟨vout_830, xsout_830, hf1, hf6, hf7, hf8, hf9, rfl, rfl, hout_830, hs831⟩ hF hr832
  rw [F_ref13_Forces_s1] at hF
  refine (JC.norm (i := 1) hf1 (JC.norm (i := 6) hf6 (JC.norm (i := 7) hf7 (JC.norm (i := 8) hf8 (JC.norm (i := 9) hf9 ?_)))))
  refine JC.seq ?_
  refine JC.seq ?_
  refine JC.region (by rfl) ?_
  intro hQ
  refine JL.move .none rfl ?_
  refine JL.bin rfl rfl rfl .none rfl ?_
  refine JL.done hQ ?_
  refine JQ.go ?_
  rcases ite_some hF with ⟨hc834, hF⟩ | ⟨hc834, hF⟩
  ·refine JC.cond_t (b := decide (n_829 ≤ 99)) rfl hc834 ?_
   refine JC.skip ?_
   refine JQ.go ?_
   refine JC.seq ?_
   refine JC.block ?_
   refine JC.seq ?_
   refine JC.region (by rfl) ?_
   intro hQ
   refine JL.assign .none rfl ?_
   refine JL.done hQ ?_
   refine JQ.go ?_
   obtain ⟨r896, hlr896, hKr896⟩ := bind_some hF
   refine JC.join (fun (out_894 : List Int) H895 f bs gs => ∃ (vout_894 : Value) (xsout_894 : List Value), f 1 = .int .i64 blow ∧ f 6 = y5a_v0 ∧ f 7 = .int .i64 y5.2 ∧ f 8 = vout_894 ∧ f 9 = .int .i64 n_829 ∧ bs = [] ∧ gs = [⟨vout_894, 3, 1, out_894.length, xsout_894⟩] ∧ CH H895 1 RInt xsout_894 out_894 ∧ HSub H831 H895 ∧ out_894 = r896) ?_ ?_
   ·skip
    refine JC.block ?_
    refine JC.loop hlr896 (fun (i_935 : Int) H936 f bs gs => f 1 = .int .i64 blow ∧ f 6 = y5a_v0 ∧ f 7 = .int .i64 y5.2 ∧ f 8 = vout_830 ∧ f 9 = .int .i64 n_829 ∧ f 10 = .int .i64 i_935 ∧ bs = [] ∧ gs = [⟨vout_830, 3, 1, out_830.length, xsout_830⟩] ∧ HSub H831 H936) ⟨rfl, rfl, rfl, rfl, rfl, rfl, rfl, rfl, (HSub.refl _)⟩ ?_
    rintro i_935 x938 H936 f bs gs ⟨hf1, hf6, hf7, hf8, hf9, hf10, rfl, rfl, hs936⟩ hF hr937
    rw [F_ref13_Forces_s2] at hF
    refine (JC.norm (i := 1) hf1 (JC.norm (i := 6) hf6 (JC.norm (i := 7) hf7 (JC.norm (i := 8) hf8 (JC.norm (i := 9) hf9 (JC.norm (i := 10) hf10 ?_))))))
    refine JC.seq ?_
    refine JC.seq ?_
    refine JC.region (by rfl) ?_
    intro hQ
    refine JL.move .none rfl ?_
    refine JL.move .none rfl ?_
    refine JL.lenSL (R := (RSl 1 RInt)) ul_84 (SL.mono (RSl.mono RInt.mono) (HSub.trans hs831 hs936) hy5a_0) .none rfl ?_
    refine JL.bin rfl rfl rfl .none rfl ?_
    refine JL.done hQ ?_
    refine JQ.go ?_
    rcases ite_some hF with ⟨hc939, hF⟩ | ⟨hc939, hF⟩
    ·refine JC.cond_t (b := decide (i_935 < (y5.1.length : Int))) rfl hc939 ?_
     refine JC.skip ?_
     refine JQ.go ?_
     refine JC.seq ?_
     refine JC.block ?_
     refine JC.seq ?_
     refine JC.region (by rfl) ?_
     intro hQ
     refine JL.move .none rfl ?_
     refine JL.move .none rfl ?_
     obtain ⟨y940, hy940, hF⟩ := bind_some hF
     refine JL.indexSL (R := (RSl 1 RInt)) sl_84 (SL.mono (RSl.mono RInt.mono) (HSub.trans hs831 hs936) hy5a_0) rfl hy940 .none rfl ?_
     rintro b941 o942 cs943 hc944 - ⟨y940_v0, rfl, hy940_0⟩
     refine JL.loadH 0 az_28 rfl hc944 rfl .none rfl ?_
     refine JL.move .none rfl ?_
     obtain ⟨y945, hy945, hF⟩ := bind_some hF
     refine JL.indexSL (R := RInt) sl_28 hy940_0 rfl hy945 .none rfl ?_
     rintro b946 o947 cs948 hc949 - rfl
     refine JL.loadH 0 az_3 rfl hc949 rfl .none rfl ?_
     refine JL.move .none rfl ?_
     refine JL.bin rfl rfl rfl .none rfl ?_
     refine JL.done hQ ?_
     refine JQ.go ?_
     refine JC.fresh (fun f => f 1 = .int .i64 blow ∧ f 6 = y5a_v0 ∧ f 7 = .int .i64 y5.2 ∧ f 8 = vout_830 ∧ f 9 = .int .i64 n_829 ∧ f 10 = .int .i64 i_935 ∧ f 40 = .bool (y945 == n_829)) ⟨rfl, rfl, rfl, rfl, rfl, rfl, rfl⟩ ?_
     rintro f ⟨hf1, hf6, hf7, hf8, hf9, hf10, hf40⟩
     refine (JC.norm (i := 1) hf1 (JC.norm (i := 6) hf6 (JC.norm (i := 7) hf7 (JC.norm (i := 8) hf8 (JC.norm (i := 9) hf9 (JC.norm (i := 10) hf10 (JC.norm (i := 40) hf40 ?_)))))))
     rcases ite_some hF with ⟨hc950, hF⟩ | ⟨hc950, hF⟩
     ·refine JC.cond_t (b := (y945 == n_829)) rfl hc950 ?_
      refine JC.seq ?_
      refine JC.region (by rfl) ?_
      intro hQ
      refine JL.move .none rfl ?_
      refine JL.move .none rfl ?_
      refine JL.buildSlice (e := 3) (l := [.int .i64 n_829]) (by kernel_rfl) .none rfl ?_
      intro b951
      obtain ⟨l952, hl952, hF⟩ := bind_some hF
      refine JL.appO (R := RInt) 0 0 (l := out_830) (m := [n_829]) ap_28 rfl ⟨rfl, rfl⟩ rfl (CH.mono RInt.mono hs936 hout_830) rfl rfl rfl (CH.cons (cs := [.int .i64 n_829]) rfl rfl CH.nil) rfl (one_cons rfl one_nil) hl952 .none rfl ?_
      intro v953 xs954 hch955
      refine JL.assign .none rfl ?_
      refine JL.done hQ ?_
      refine JQ.go ?_
      refine JC.exit ?_
      refine JQ.exit_other rfl ?_
      refine JQ.exit_then ?_
      refine JQ.exit_then ?_
      refine JQ.exit_block ?_
      obtain rfl := Option.some.inj hF
      have ehr937 := hr937 _ rfl
      subst ehr937
      refine JQ.mask [false] [true] ?_
      exact JQ.join l952 ⟨v953, xs954, rfl, rfl, rfl, rfl, rfl, rfl, rfl, hch955, hs936, rfl⟩
     ·refine JC.cond_f (b := (y945 == n_829)) rfl hc950 ?_
      refine JC.skip ?_
      refine JQ.normal_block ?_
      refine JQ.go ?_
      refine JC.region (by rfl) ?_
      intro hQ
      refine JL.move .none rfl ?_
      refine JL.bin rfl rfl rfl .none rfl ?_
      refine JL.assign .none rfl ?_
      refine JL.done hQ ?_
      obtain rfl := Option.some.inj hF
      exact JQ.next rfl ⟨rfl, rfl, rfl, rfl, rfl, rfl, rfl, rfl, hs936⟩
    ·refine JC.cond_f (b := decide (i_935 < (y5.1.length : Int))) rfl hc939 ?_
     refine JC.exit ?_
     refine JQ.exit_then ?_
     refine JQ.exit_then ?_
     refine JQ.exit_block ?_
     obtain rfl := Option.some.inj hF
     have ehr937 := hr937 _ rfl
     subst ehr937
     exact JQ.join out_830 ⟨vout_830, xsout_830, rfl, rfl, rfl, rfl, rfl, rfl, rfl, (CH.mono RInt.mono hs936 hout_830), hs936, rfl⟩
   ·rintro out_894 H895 f bs gs ⟨vout_894, xsout_894, hf1, hf6, hf7, hf8, hf9, rfl, rfl, hout_894, hs895, rfl⟩
    have hF := hKr896
    try dsimp only at hF
    refine (JQ.norm (i := 1) hf1 (JQ.norm (i := 6) hf6 (JQ.norm (i := 7) hf7 (JQ.norm (i := 8) hf8 (JQ.norm (i := 9) hf9 ?_)))))
    refine JQ.normal_block ?_
    refine JQ.go ?_
    refine JC.region (by rfl) ?_
    intro hQ
    refine JL.move .none rfl ?_
    refine JL.bin rfl rfl rfl .none rfl ?_
    refine JL.assign .none rfl ?_
    refine JL.done hQ ?_
    obtain rfl := Option.some.inj hF
    exact JQ.next rfl ⟨vout_894, xsout_894, rfl, rfl, rfl, rfl, rfl, rfl, rfl, hout_894, (HSub.trans hs831 hs895)⟩
  ·refine JC.cond_f (b := decide (n_829 ≤ 99)) rfl hc834 ?_
   refine JC.exit ?_
   refine JQ.exit_then ?_
   refine JQ.exit_then ?_
   refine JQ.exit_block ?_
   obtain rfl := Option.some.inj hF
   have ehr832 := hr832 _ rfl
   subst ehr832
   exact JQ.join out_830 ⟨vout_830, xsout_830, rfl, rfl, rfl, rfl, hout_830, hs831, rfl⟩
 ·rintro out_576 H577 f bs gs ⟨vout_576, xsout_576, hf7, hf8, rfl, rfl, hout_576, hs577, rfl⟩
  have hF := hKr578
  try dsimp only at hF
  refine (JQ.norm (i := 7) hf7 (JQ.norm (i := 8) hf8 ?_))
  refine JQ.go ?_
  refine JC.seq ?_
  refine JC.region (by rfl) ?_
  intro hQ
  refine JL.move .none rfl ?_
  refine JL.move .none rfl ?_
  refine JL.assign .none rfl ?_
  refine JL.assign .none rfl ?_
  refine JL.done hQ ?_
  refine JQ.go ?_
  refine JC.ret ?_
  refine JQ.freezeG 0 (R := RInt) rfl RInt.mono hout_576 rfl ?_
  intro H956 hs956 hg957
  obtain rfl := Option.some.inj hF
  exact JQ.outH rfl (.tmp (.tmp .nil)) ⟨vout_576, rfl, hg957⟩
-- 25 ferrule/counts.Right
noncomputable def F_counts_Right_s1 (n : Nat) (meter : Int) (w52 : counts_test) : Int → List Int × Int → Option Int
 | n_175, (kl183, v184) => (F_counts_test_right n w52 kl183 meter).bind fun y197 => (if y197 = true then (some (w64 (n_175 + 1))) else (some n_175)).bind fun n_199 => some n_199
noncomputable def F_counts_Right (n : Nat) (r : Run) (meter : Int) : Option (Int × Int) :=
 (F_counts_within n meter 0 (w64 ((r.Meters.length : Int) - 1))).bind fun y4 => (F_counts_open n r y4 (fun a0_ a1_ => F_counts_none n a0_ a1_)).bind fun y5 => if (y5.2.2 != 0) = true then (some (0, y5.2.2)) else ((neM y5.2.1).bind fun _ => y5.1.bind fun w52 => ((permO (F_counts_Right_s1 n meter w52) 0 y5.2.1).bind fun z203 => match z203 with | n_175 => some n_175).bind fun n_129 => if (n_129 == (y5.2.1.length : Int)) = true then (some (1, 0)) else (if (n_129 == 0) = true then (some (2, 0)) else (some (3, 0))))
set_option maxRecDepth 100000 in
set_option maxHeartbeats 40000000 in
theorem c_counts_Right (n : Nat) (H : Hp) (r : Run) (r_v0 : Value) (hr_0 : SL H 7 R_Section r_v0 r.Canopy.Frame.Sections) (r_v7 : Value) (hr_7 : SL H 2 R_Span r_v7 r.Canopy.Ribs) (r_v8 : Value) (hr_8 : SL H 1 RInt r_v8 r.Canopy.Shares) (r_v9 : Value) (hr_9 : SL H 3 R_Blow r_v9 r.Blows) (r_v10 : Value) (hr_10 : SL H 2 R_Meter r_v10 r.Meters) (meter : Int) (y : Int × Int) (hF : F_counts_Right n r meter = some y) : SC Tryz.prog 25 [.agg [r_v0, .int .i64 r.Canopy.Frame.Low, .int .i64 r.Canopy.Frame.High, .int .i64 r.Canopy.Frame.Ease.Num, .int .i64 r.Canopy.Frame.Ease.Den, .int .i64 r.Canopy.Frame.Rod, .int .i64 r.Canopy.Frame.Case, r_v7, r_v8, r_v9, r_v10, .int .i64 r.Wrong].toArray, .int .i64 meter] (.tuple [.int .i64 y.1, .int .i64 y.2].toArray) H := by
 rw [F_counts_Right] at hF
 refine SC.of (N := 45) Tryz.func25 rfl rfl rfl fun w => ?_
 refine JC.seq ?_
 refine JC.region (by rfl) ?_
 intro hQ
 refine JL.box (cs := [r_v0, .int .i64 r.Canopy.Frame.Low, .int .i64 r.Canopy.Frame.High, .int .i64 r.Canopy.Frame.Ease.Num, .int .i64 r.Canopy.Frame.Ease.Den, .int .i64 r.Canopy.Frame.Rod, .int .i64 r.Canopy.Frame.Case, r_v7, r_v8, r_v9, r_v10, .int .i64 r.Wrong]) rfl .none rfl ?_
 intro b1
 refine JL.assign .none rfl ?_
 refine JL.assign .none rfl ?_
 refine JL.done hQ ?_
 refine JQ.go ?_
 refine JC.seq ?_
 obtain ⟨y4, hy4, hF⟩ := bind_some hF
 obtain ⟨y5, hy5, hF⟩ := bind_some hF
 refine JC.mixed 15 15 #[false, false, false, false, false, false, false, false, false, false, false, false, false, false, false] [(b1, .cells [r_v0, .int .i64 r.Canopy.Frame.Low, .int .i64 r.Canopy.Frame.High, .int .i64 r.Canopy.Frame.Ease.Num, .int .i64 r.Canopy.Frame.Ease.Den, .int .i64 r.Canopy.Frame.Rod, .int .i64 r.Canopy.Frame.Case, r_v7, r_v8, r_v9, r_v10, .int .i64 r.Wrong].toArray 34)] (by rfl) mo_ (by kernel_rfl) (by kernel_rfl) ?_
 intro hQ hE
 refine JA.take 0 (listed' := #[true, false, false, false, false, false, false, false, false, false, false, false, false, false, false]) hQ rfl (by kernel_rfl) (by kernel_rfl) (by kernel_rfl) (by kernel_rfl) (by kernel_rfl) hE (HSub.refl _) (.cons_cons _ (List.nil_sublist _)) ?_
 refine JL.loadOwn 0 az_34 rfl rfl rfl .none rfl ?_
 refine JA.cont ?_
 refine JA.take 1 (listed' := #[true, true, false, false, false, false, false, false, false, false, false, false, false, false, false]) hQ rfl (by kernel_rfl) (by kernel_rfl) (by kernel_rfl) (by kernel_rfl) (by kernel_rfl) hE (HSub.refl _) (.cons_cons _ (List.nil_sublist _)) ?_
 refine JL.move .none rfl ?_
 refine JA.cont ?_
 refine JA.take 2 (listed' := #[true, true, true, false, false, false, false, false, false, false, false, false, false, false, false]) hQ rfl (by kernel_rfl) (by kernel_rfl) (by kernel_rfl) (by kernel_rfl) (by kernel_rfl) hE (HSub.refl _) (.cons_cons _ (List.nil_sublist _)) ?_
 refine JL.fieldAddr fo_34_2 rfl .none rfl ?_
 refine JA.cont ?_
 refine JA.take 3 (listed' := #[true, true, true, true, false, false, false, false, false, false, false, false, false, false, false]) hQ rfl (by kernel_rfl) (by kernel_rfl) (by kernel_rfl) (by kernel_rfl) (by kernel_rfl) hE (HSub.refl _) (.cons_cons _ (List.nil_sublist _)) ?_
 refine JL.loadOwn 0 az_32 rfl rfl rfl .none rfl ?_
 refine JA.cont ?_
 refine JA.take 4 (listed' := #[true, true, true, true, true, false, false, false, false, false, false, false, false, false, false]) hQ rfl (by kernel_rfl) (by kernel_rfl) (by kernel_rfl) (by kernel_rfl) (by kernel_rfl) hE (HSub.refl _) (.cons_cons _ (List.nil_sublist _)) ?_
 refine JL.lenSL (R := R_Meter) ul_32 hr_10 .none rfl ?_
 refine JA.cont ?_
 refine JA.take 5 (listed' := #[true, true, true, true, true, true, false, false, false, false, false, false, false, false, false]) hQ rfl (by kernel_rfl) (by kernel_rfl) (by kernel_rfl) (by kernel_rfl) (by kernel_rfl) hE (HSub.refl _) (.cons_cons _ (List.nil_sublist _)) ?_
 refine JL.bin rfl rfl rfl .none rfl ?_
 refine JA.cont ?_
 refine JA.many [6] (by kernel_rfl) (by simp) (all_one ⟨_, #[true, true, true, true, true, true, true, false, false, false, false, false, false, false, false], rfl, (by kernel_rfl), ?_⟩)
 refine JL.callS (c_counts_within n H meter 0 (w64 ((r.Meters.length : Int) - 1)) y4 hy4) rfl en_54 .none rfl ?_
 refine JA.after hE (HSub.refl _) (.cons_cons _ (List.nil_sublist _)) ?_
 refine JA.many [7] (by kernel_rfl) (by simp) (all_one ⟨_, #[true, true, true, true, true, true, true, true, false, false, false, false, false, false, false], rfl, (by kernel_rfl), ?_⟩)
 refine JL.callH (c_counts_open n H r r_v0 hr_0 r_v7 hr_7 r_v8 hr_8 r_v9 hr_9 r_v10 hr_10 y4 (fun a0_ a1_ => F_counts_none n a0_ a1_) 48 [] en_48 (fun H' hs' a0_ a1_ y' hy' => c_counts_none n H' a0_ a1_ y' hy') y5 hy5) rfl en_47 .none rfl ?_
 rintro H10 vv11 hs10 ⟨y5a_v0, y5b_v0, rfl, hy5a_0, hy5b_0⟩
 refine JA.after hE hs10 (.cons_cons _ (List.nil_sublist _)) ?_
 refine JA.take 8 (listed' := #[true, true, true, true, true, true, true, true, true, false, false, false, false, false, false]) hQ rfl (by kernel_rfl) (by kernel_rfl) (by kernel_rfl) (by kernel_rfl) (by kernel_rfl) hE hs10 (.cons_cons _ (List.nil_sublist _)) ?_
 refine JL.move .none rfl ?_
 refine JA.cont ?_
 refine JA.take 9 (listed' := #[true, true, true, true, true, true, true, true, true, true, false, false, false, false, false]) hQ rfl (by kernel_rfl) (by kernel_rfl) (by kernel_rfl) (by kernel_rfl) (by kernel_rfl) hE hs10 (.cons_cons _ (List.nil_sublist _)) ?_
 refine JL.extract rfl rfl .none rfl ?_
 refine JA.cont ?_
 refine JA.take 10 (listed' := #[true, true, true, true, true, true, true, true, true, true, true, false, false, false, false]) hQ rfl (by kernel_rfl) (by kernel_rfl) (by kernel_rfl) (by kernel_rfl) (by kernel_rfl) hE hs10 (.cons_cons _ (List.nil_sublist _)) ?_
 refine JL.extract rfl rfl .none rfl ?_
 refine JA.cont ?_
 refine JA.take 11 (listed' := #[true, true, true, true, true, true, true, true, true, true, true, true, false, false, false]) hQ rfl (by kernel_rfl) (by kernel_rfl) (by kernel_rfl) (by kernel_rfl) (by kernel_rfl) hE hs10 (.cons_cons _ (List.nil_sublist _)) ?_
 refine JL.extract rfl rfl .none rfl ?_
 refine JA.cont ?_
 refine JA.take 12 (listed' := #[true, true, true, true, true, true, true, true, true, true, true, true, true, false, false]) hQ rfl (by kernel_rfl) (by kernel_rfl) (by kernel_rfl) (by kernel_rfl) (by kernel_rfl) hE hs10 (.cons_cons _ (List.nil_sublist _)) ?_
 refine JL.assign .none rfl ?_
 refine JA.cont ?_
 refine JA.take 13 (listed' := #[true, true, true, true, true, true, true, true, true, true, true, true, true, true, false]) hQ rfl (by kernel_rfl) (by kernel_rfl) (by kernel_rfl) (by kernel_rfl) (by kernel_rfl) hE hs10 (.cons_cons _ (List.nil_sublist _)) ?_
 refine JL.assign .none rfl ?_
 refine JA.cont ?_
 refine JA.take 14 (listed' := #[true, true, true, true, true, true, true, true, true, true, true, true, true, true, true]) hQ rfl (by kernel_rfl) (by kernel_rfl) (by kernel_rfl) (by kernel_rfl) (by kernel_rfl) hE hs10 (.cons_cons _ (List.nil_sublist _)) ?_
 refine JL.assign .none rfl ?_
 refine JA.cont ?_
 refine JA.done hQ (by kernel_rfl) ?_
 refine JQ.go ?_
 refine JC.fresh (fun f => f 1 = .int .i64 meter ∧ f 4 = .int .i64 0 ∧ f 5 = .int .i64 0 ∧ f 6 = y5a_v0 ∧ f 7 = y5b_v0 ∧ f 8 = .int .i64 y5.2.2) ⟨rfl, rfl, rfl, rfl, rfl, rfl⟩ ?_
 rintro f ⟨hf1, hf4, hf5, hf6, hf7, hf8⟩
 refine (JC.norm (i := 1) hf1 (JC.norm (i := 4) hf4 (JC.norm (i := 5) hf5 (JC.norm (i := 6) hf6 (JC.norm (i := 7) hf7 (JC.norm (i := 8) hf8 ?_))))))
 refine JC.seq ?_
 refine JC.seq ?_
 refine JC.region (by rfl) ?_
 intro hQ
 refine JL.move .none rfl ?_
 refine JL.bin rfl rfl rfl .none rfl ?_
 refine JL.done hQ ?_
 refine JQ.go ?_
 rcases ite_some hF with ⟨hc12, hF⟩ | ⟨hc12, hF⟩
 ·refine JC.cond_t (b := (y5.2.2 != 0)) rfl hc12 ?_
  refine JC.seq ?_
  refine JC.region (by rfl) ?_
  intro hQ
  refine JL.move .none rfl ?_
  refine JL.assign .none rfl ?_
  refine JL.assign .none rfl ?_
  refine JL.done hQ ?_
  refine JQ.go ?_
  refine JC.ret ?_
  refine JQ.ret_then ?_
  obtain rfl := Option.some.inj hF
  exact JQ.outS rfl (.tmp (.tmp .nil)) rfl
 ·refine JC.cond_f (b := (y5.2.2 != 0)) rfl hc12 ?_
  refine JC.skip ?_
  refine JQ.go ?_
  refine JC.seq ?_
  refine JC.region (by rfl) ?_
  intro hQ
  refine JL.assign .none rfl ?_
  refine JL.done hQ ?_
  refine JQ.go ?_
  refine JC.seq ?_
  refine JC.seq ?_
  refine JC.region (by rfl) ?_
  intro hQ
  refine JL.move .none rfl ?_
  obtain ⟨u18, hu18, hF⟩ := bind_some hF
  obtain ⟨mb19, es20, ck21, hv22, hH23, hm24⟩ := MD.get hy5b_0 (neM_some hu18)
  refine JL.rangeM mp_92 hv22 (.data hH23) hm24 .none rfl ?_
  intro r13 sn14 seen15 cz16 hI17
  refine JL.done hQ ?_
  refine JQ.go ?_
  obtain ⟨w52, hw52, hF⟩ := bind_some hF
  obtain ⟨b53, o54, cs55, hv56, hc57, ⟨w52_v0, w52_v7, w52_v8, w52_v9, w52_v10, w52_v12, rfl, hw52_0, hw52_7, hw52_8, hw52_9, hw52_10, hw52_12⟩⟩ := (show PT H10 R_counts_test y5a_v0 (some w52) by rw [← hw52]; exact hy5a_0)
  subst hv56
  obtain ⟨r131, hlr131, hKr131⟩ := bind_some hF
  refine JC.join (fun (n_129 : Int) H130 f bs gs => f 7 = y5b_v0 ∧ f 9 = .int .i64 n_129 ∧ bs = [] ∧ gs = [] ∧ HSub H10 H130 ∧ n_129 = r131) ?_ ?_
  ·skip
   obtain ⟨rs177, hper178, hl179⟩ := bind_some hlr131
   refine JC.block ?_
   refine JC.mask [true, false] [] ?_
   refine JC.mapLoop (srt_nodup hI17.srt) hper178 (fun (dd : Mp) (n_175 : Int) H176 f bs gs => ∃ (sn_r13 : Nat) (se_r13 : Array Nat) (cz_r13 : Nat), f 1 = .int .i64 meter ∧ f 6 = .pointer (some ⟨b53, o54, none⟩) ∧ f 7 = y5b_v0 ∧ f 9 = .int .i64 n_175 ∧ f 27 = .pointer (some ⟨r13, 0, none⟩) ∧ bs = [(r13, .mapIter (some mb19) sn_r13 se_r13 cz_r13)] ∧ gs = [] ∧ IR 6 ekA y5.2.1 y5.2.1 es20 ck21 sn_r13 se_r13 cz_r13 dd ∧ HSub H10 H176) ⟨sn14, seen15, cz16, rfl, rfl, rfl, rfl, rfl, rfl, rfl, hI17, (HSub.refl _)⟩ ?_
   rintro dd n_175 H176 f bs gs ⟨sn_r13, se_r13, cz_r13, hf1, hf6, hf7, hf9, hf27, rfl, rfl, hI_r13, hs176⟩ hend180 hgo181
   refine (JC.norm (i := 1) hf1 (JC.norm (i := 6) hf6 (JC.norm (i := 7) hf7 (JC.norm (i := 9) hf9 (JC.norm (i := 27) hf27 ?_)))))
   refine JC.seq ?_
   refine JC.region (by rfl) ?_
   intro hQ
   refine JL.nextM 0 kt_104 rfl rfl (.data (hs176.le _ _ hH23)) hm24 hI_r13 .none rfl ?_ ?_
   ·intro hp182
    refine JL.extract rfl rfl .none rfl ?_
    refine JL.done hQ ?_
    refine JQ.go ?_
    refine JC.seq ?_
    refine JC.cond_f (b := false) rfl rfl ?_
    refine JC.exit ?_
    refine JQ.exit_then ?_
    refine JQ.exit_then ?_
    refine JQ.exit_block ?_
    have er194 := hend180 hp182
    subst er194
    obtain rfl := Option.some.inj hl179
    refine JQ.mask [false] [] ?_
    exact JQ.join n_175 ⟨rfl, rfl, rfl, rfl, hs176, rfl⟩
   ·rintro ⟨kl183, v184⟩ seen185 cz186 hx187 hxm188 hxn189 hI190 hE191
    have kok195 := (hm24.okk _ hxm188)
    dsimp only at kok195
    obtain ⟨sp193, hst192⟩ := hgo181 (kl183, v184) hx187 hxn189
    have hF := hst192
    rw [F_counts_Right_s1] at hF
    refine JL.extract rfl rfl .none rfl ?_
    refine JL.done hQ ?_
    refine JQ.go ?_
    refine JC.seq ?_
    refine JC.cond_t (b := true) rfl rfl ?_
    refine JC.skip ?_
    refine JQ.go ?_
    refine JC.block ?_
    refine JC.seq ?_
    refine JC.region (by rfl) ?_
    intro hQ
    refine JL.entryIt (y := (kl183, v184)) 0 rfl rfl (.data (hs176.le _ _ hH23)) hm24 hE191 .none rfl ?_
    refine JL.extract rfl rfl .none rfl ?_
    refine JL.alloc ze_104 .none rfl ?_
    intro b196
    refine JL.storeArr (l := [0, 0, 0, 0, 0, 0]) (l' := kl183) 0 az_104 rfl rfl rfl rfl kok195.1 .none ?_
    refine JL.done hQ ?_
    refine JQ.go ?_
    refine JC.seq ?_
    refine JC.region (by rfl) ?_
    intro hQ
    refine JL.move .none rfl ?_
    refine JL.loadArr (l := kl183) 0 az_104 rfl rfl kok195.1 .none rfl ?_
    refine JL.move .none rfl ?_
    obtain ⟨y197, hy197, hF⟩ := bind_some hF
    refine JL.callS (c_counts_test_right n H176 w52 w52_v0 (SL.mono R_Section_mono hs176 hw52_0) w52_v7 (SL.mono R_Span_mono hs176 hw52_7) w52_v8 (SL.mono RInt.mono hs176 hw52_8) w52_v9 (SL.mono R_Blow_mono hs176 hw52_9) w52_v10 (SL.mono R_Meter_mono hs176 hw52_10) w52_v12 (FN_82.mono hs176 hw52_12) b53 o54 (Cells.mono hs176 hc57) kl183 kok195.1 meter y197 hy197) rfl en_59 .none rfl ?_
    refine JL.done hQ ?_
    refine JQ.go ?_
    refine JC.fresh (fun f => f 1 = .int .i64 meter ∧ f 6 = .pointer (some ⟨b53, o54, none⟩) ∧ f 7 = y5b_v0 ∧ f 9 = .int .i64 n_175 ∧ f 27 = .pointer (some ⟨r13, 0, none⟩) ∧ f 35 = .bool y197) ⟨rfl, rfl, rfl, rfl, rfl, rfl⟩ ?_
    rintro f ⟨hf1, hf6, hf7, hf9, hf27, hf35⟩
    refine (JC.norm (i := 1) hf1 (JC.norm (i := 6) hf6 (JC.norm (i := 7) hf7 (JC.norm (i := 9) hf9 (JC.norm (i := 27) hf27 (JC.norm (i := 35) hf35 ?_))))))
    obtain ⟨r201, hlr201, hKr201⟩ := bind_some hF
    refine JC.join (fun (n_199 : Int) H200 f bs gs => f 1 = .int .i64 meter ∧ f 6 = .pointer (some ⟨b53, o54, none⟩) ∧ f 7 = y5b_v0 ∧ f 9 = .int .i64 n_199 ∧ f 27 = .pointer (some ⟨r13, 0, none⟩) ∧ bs = [(r13, .mapIter (some mb19) sn_r13 seen185 cz186)] ∧ gs = [] ∧ HSub H176 H200 ∧ n_199 = r201) ?_ ?_
    ·have hF := hlr201
     rcases ite_some hF with ⟨hc202, hF⟩ | ⟨hc202, hF⟩
     ·refine JC.cond_t (b := y197) rfl hc202 ?_
      refine JC.region (by rfl) ?_
      intro hQ
      refine JL.move .none rfl ?_
      refine JL.bin rfl rfl rfl .none rfl ?_
      refine JL.assign .none rfl ?_
      refine JL.done hQ ?_
      obtain rfl := Option.some.inj hF
      refine JQ.mask [false, true] [] ?_
      exact JQ.join (w64 (n_175 + 1)) ⟨rfl, rfl, rfl, rfl, rfl, rfl, rfl, (HSub.refl _), rfl⟩
     ·refine JC.cond_f (b := y197) rfl hc202 ?_
      refine JC.skip ?_
      obtain rfl := Option.some.inj hF
      refine JQ.mask [false, true] [] ?_
      exact JQ.join n_175 ⟨rfl, rfl, rfl, rfl, rfl, rfl, rfl, (HSub.refl _), rfl⟩
    ·rintro n_199 H200 f bs gs ⟨hf1, hf6, hf7, hf9, hf27, rfl, rfl, hs200, rfl⟩
     have hF := hKr201
     try dsimp only at hF
     refine (JQ.norm (i := 1) hf1 (JQ.norm (i := 6) hf6 (JQ.norm (i := 7) hf7 (JQ.norm (i := 9) hf9 (JQ.norm (i := 27) hf27 ?_)))))
     refine JQ.normal_block ?_
     obtain rfl := Option.some.inj hF
     exact JQ.mnext hx187 hxn189 hst192 ⟨sn_r13, seen185, cz186, rfl, rfl, rfl, rfl, rfl, rfl, rfl, hI190, (HSub.trans hs176 hs200)⟩
  ·rintro n_129 H130 f bs gs ⟨hf7, hf9, rfl, rfl, hs130, rfl⟩
   have hF := hKr131
   try dsimp only at hF
   refine (JQ.norm (i := 7) hf7 (JQ.norm (i := 9) hf9 ?_))
   refine JQ.go ?_
   refine JC.seq ?_
   refine JC.seq ?_
   refine JC.region (by rfl) ?_
   intro hQ
   refine JL.move .none rfl ?_
   refine JL.done hQ ?_
   refine JQ.go ?_
   refine JC.block ?_
   refine JC.seq ?_
   refine JC.region (by rfl) ?_
   intro hQ
   refine JL.move .none rfl ?_
   refine JL.lenMD mp_92 rfl (MD.mono hs130 hy5b_0) .none rfl ?_
   refine JL.bin rfl rfl rfl .none rfl ?_
   refine JL.assign .none rfl ?_
   refine JL.done hQ ?_
   refine JQ.go ?_
   rcases ite_some hF with ⟨hc204, hF⟩ | ⟨hc204, hF⟩
   ·refine JC.cond_t (b := (n_129 == (y5.2.1.length : Int))) rfl hc204 ?_
    refine JC.seq ?_
    refine JC.region (by rfl) ?_
    intro hQ
    refine JL.assign .none rfl ?_
    refine JL.assign .none rfl ?_
    refine JL.done hQ ?_
    refine JQ.go ?_
    refine JC.ret ?_
    refine JQ.ret_block ?_
    refine JQ.ret_then ?_
    obtain rfl := Option.some.inj hF
    exact JQ.outS rfl (.tmp (.tmp .nil)) rfl
   ·refine JC.cond_f (b := (n_129 == (y5.2.1.length : Int))) rfl hc204 ?_
    refine JC.seq ?_
    refine JC.region (by rfl) ?_
    intro hQ
    refine JL.bin rfl rfl rfl .none rfl ?_
    refine JL.assign .none rfl ?_
    refine JL.done hQ ?_
    refine JQ.go ?_
    rcases ite_some hF with ⟨hc205, hF⟩ | ⟨hc205, hF⟩
    ·refine JC.cond_t (b := (n_129 == 0)) rfl hc205 ?_
     refine JC.seq ?_
     refine JC.region (by rfl) ?_
     intro hQ
     refine JL.assign .none rfl ?_
     refine JL.assign .none rfl ?_
     refine JL.done hQ ?_
     refine JQ.go ?_
     refine JC.ret ?_
     refine JQ.ret_block ?_
     refine JQ.ret_then ?_
     obtain rfl := Option.some.inj hF
     exact JQ.outS rfl (.tmp (.tmp .nil)) rfl
    ·refine JC.cond_f (b := (n_129 == 0)) rfl hc205 ?_
     refine JC.skip ?_
     refine JQ.normal_block ?_
     refine JQ.go ?_
     refine JC.seq ?_
     refine JC.region (by rfl) ?_
     intro hQ
     refine JL.assign .none rfl ?_
     refine JL.assign .none rfl ?_
     refine JL.done hQ ?_
     refine JQ.go ?_
     refine JC.ret ?_
     obtain rfl := Option.some.inj hF
     exact JQ.outS rfl (.tmp (.tmp .nil)) rfl
-- 71 ferrule/ferruleref13.is
def F_ref13_is (n : Nat) (some_ : Int) (many : Int) : Option Int :=
 if (some_ == many) = true then (some 1) else (if (some_ == 0) = true then (some 2) else (some 3))
set_option maxRecDepth 100000 in
set_option maxHeartbeats 40000000 in
theorem c_ref13_is (n : Nat) (H : Hp) (some_ : Int) (many : Int) (y : Int) (hF : F_ref13_is n some_ many = some y) : SC Tryz.prog 71 [.int .i64 some_, .int .i64 many] (.int .i64 y) H := by
 rw [F_ref13_is] at hF
 refine SC.of (N := 11) Tryz.func71 rfl rfl rfl fun w => ?_
 refine JC.seq ?_
 refine JC.region (by rfl) ?_
 intro hQ
 refine JL.assign .none rfl ?_
 refine JL.done hQ ?_
 refine JQ.go ?_
 refine JC.seq ?_
 refine JC.seq ?_
 refine JC.region (by rfl) ?_
 intro hQ
 refine JL.move .none rfl ?_
 refine JL.done hQ ?_
 refine JQ.go ?_
 refine JC.block ?_
 refine JC.seq ?_
 refine JC.region (by rfl) ?_
 intro hQ
 refine JL.move .none rfl ?_
 refine JL.bin rfl rfl rfl .none rfl ?_
 refine JL.assign .none rfl ?_
 refine JL.done hQ ?_
 refine JQ.go ?_
 rcases ite_some hF with ⟨hc1, hF⟩ | ⟨hc1, hF⟩
 ·refine JC.cond_t (b := (some_ == many)) rfl hc1 ?_
  refine JC.seq ?_
  refine JC.region (by rfl) ?_
  intro hQ
  refine JL.assign .none rfl ?_
  refine JL.done hQ ?_
  refine JQ.go ?_
  refine JC.ret ?_
  refine JQ.ret_block ?_
  refine JQ.ret_then ?_
  obtain rfl := Option.some.inj hF
  exact JQ.outS rfl (.tmp .nil) rfl
 ·refine JC.cond_f (b := (some_ == many)) rfl hc1 ?_
  refine JC.seq ?_
  refine JC.region (by rfl) ?_
  intro hQ
  refine JL.bin rfl rfl rfl .none rfl ?_
  refine JL.assign .none rfl ?_
  refine JL.done hQ ?_
  refine JQ.go ?_
  rcases ite_some hF with ⟨hc2, hF⟩ | ⟨hc2, hF⟩
  ·refine JC.cond_t (b := (some_ == 0)) rfl hc2 ?_
   refine JC.seq ?_
   refine JC.region (by rfl) ?_
   intro hQ
   refine JL.assign .none rfl ?_
   refine JL.done hQ ?_
   refine JQ.go ?_
   refine JC.ret ?_
   refine JQ.ret_block ?_
   refine JQ.ret_then ?_
   obtain rfl := Option.some.inj hF
   exact JQ.outS rfl (.tmp .nil) rfl
  ·refine JC.cond_f (b := (some_ == 0)) rfl hc2 ?_
   refine JC.skip ?_
   refine JQ.normal_block ?_
   refine JQ.go ?_
   refine JC.seq ?_
   refine JC.region (by rfl) ?_
   intro hQ
   refine JL.assign .none rfl ?_
   refine JL.done hQ ?_
   refine JQ.go ?_
   refine JC.ret ?_
   obtain rfl := Option.some.inj hF
   exact JQ.outS rfl (.tmp .nil) rfl
-- 32 ferrule/ferruleref13.Right
def F_ref13_Right_s1 (n : Nat) (r : Run) (meter : Int) (y5 : (List (List Int)) × Int) : Int × Int → Option ((Int × Int) ⊕ Int)
 | (some_173, i_174) => if decide (i_174 < (y5.1.length : Int)) = true then ((geti r.Meters meter).bind fun y190 => (geti y5.1 i_174).bind fun y195 => (F_ref13_IsRight n y190 y195).bind fun y200 => (if y200 = true then (some (w64 (some_173 + 1))) else (some some_173)).bind fun some_202 => some (Sum.inl (some_202, (w64 (i_174 + 1))))) else (some (Sum.inr some_173))
def F_ref13_Right (n : Nat) (r : Run) (meter : Int) : Option (Int × Int) :=
 (F_ref13_within n meter 0 (w64 ((r.Meters.length : Int) - 1))).bind fun y4 => (F_ref13_known n r y4).bind fun y5 => if (y5.2 != 0) = true then (some (0, y5.2)) else ((loopO n (F_ref13_Right_s1 n r meter y5) (0, 0)).bind fun some_108 => (F_ref13_is n some_108 (y5.1.length : Int)).bind fun y206 => some (y206, 0))
set_option maxRecDepth 100000 in
set_option maxHeartbeats 40000000 in
theorem c_ref13_Right (n : Nat) (H : Hp) (r : Run) (r_v0 : Value) (hr_0 : SL H 7 R_Section r_v0 r.Canopy.Frame.Sections) (r_v7 : Value) (hr_7 : SL H 2 R_Span r_v7 r.Canopy.Ribs) (r_v8 : Value) (hr_8 : SL H 1 RInt r_v8 r.Canopy.Shares) (r_v9 : Value) (hr_9 : SL H 3 R_Blow r_v9 r.Blows) (r_v10 : Value) (hr_10 : SL H 2 R_Meter r_v10 r.Meters) (meter : Int) (y : Int × Int) (hF : F_ref13_Right n r meter = some y) : SC Tryz.prog 32 [.agg [r_v0, .int .i64 r.Canopy.Frame.Low, .int .i64 r.Canopy.Frame.High, .int .i64 r.Canopy.Frame.Ease.Num, .int .i64 r.Canopy.Frame.Ease.Den, .int .i64 r.Canopy.Frame.Rod, .int .i64 r.Canopy.Frame.Case, r_v7, r_v8, r_v9, r_v10, .int .i64 r.Wrong].toArray, .int .i64 meter] (.tuple [.int .i64 y.1, .int .i64 y.2].toArray) H := by
 rw [F_ref13_Right] at hF
 refine SC.of (N := 46) Tryz.func32 rfl rfl rfl fun w => ?_
 refine JC.seq ?_
 refine JC.region (by rfl) ?_
 intro hQ
 refine JL.box (cs := [r_v0, .int .i64 r.Canopy.Frame.Low, .int .i64 r.Canopy.Frame.High, .int .i64 r.Canopy.Frame.Ease.Num, .int .i64 r.Canopy.Frame.Ease.Den, .int .i64 r.Canopy.Frame.Rod, .int .i64 r.Canopy.Frame.Case, r_v7, r_v8, r_v9, r_v10, .int .i64 r.Wrong]) rfl .none rfl ?_
 intro b1
 refine JL.assign .none rfl ?_
 refine JL.assign .none rfl ?_
 refine JL.done hQ ?_
 refine JQ.go ?_
 refine JC.seq ?_
 obtain ⟨y4, hy4, hF⟩ := bind_some hF
 obtain ⟨y5, hy5, hF⟩ := bind_some hF
 refine JC.mixed 13 13 #[false, false, false, false, false, false, false, false, false, false, false, false, false] [(b1, .cells [r_v0, .int .i64 r.Canopy.Frame.Low, .int .i64 r.Canopy.Frame.High, .int .i64 r.Canopy.Frame.Ease.Num, .int .i64 r.Canopy.Frame.Ease.Den, .int .i64 r.Canopy.Frame.Rod, .int .i64 r.Canopy.Frame.Case, r_v7, r_v8, r_v9, r_v10, .int .i64 r.Wrong].toArray 34)] (by rfl) mo_ (by kernel_rfl) (by kernel_rfl) ?_
 intro hQ hE
 refine JA.take 0 (listed' := #[true, false, false, false, false, false, false, false, false, false, false, false, false]) hQ rfl (by kernel_rfl) (by kernel_rfl) (by kernel_rfl) (by kernel_rfl) (by kernel_rfl) hE (HSub.refl _) (.cons_cons _ (List.nil_sublist _)) ?_
 refine JL.loadOwn 0 az_34 rfl rfl rfl .none rfl ?_
 refine JA.cont ?_
 refine JA.take 1 (listed' := #[true, true, false, false, false, false, false, false, false, false, false, false, false]) hQ rfl (by kernel_rfl) (by kernel_rfl) (by kernel_rfl) (by kernel_rfl) (by kernel_rfl) hE (HSub.refl _) (.cons_cons _ (List.nil_sublist _)) ?_
 refine JL.move .none rfl ?_
 refine JA.cont ?_
 refine JA.take 2 (listed' := #[true, true, true, false, false, false, false, false, false, false, false, false, false]) hQ rfl (by kernel_rfl) (by kernel_rfl) (by kernel_rfl) (by kernel_rfl) (by kernel_rfl) hE (HSub.refl _) (.cons_cons _ (List.nil_sublist _)) ?_
 refine JL.fieldAddr fo_34_2 rfl .none rfl ?_
 refine JA.cont ?_
 refine JA.take 3 (listed' := #[true, true, true, true, false, false, false, false, false, false, false, false, false]) hQ rfl (by kernel_rfl) (by kernel_rfl) (by kernel_rfl) (by kernel_rfl) (by kernel_rfl) hE (HSub.refl _) (.cons_cons _ (List.nil_sublist _)) ?_
 refine JL.loadOwn 0 az_32 rfl rfl rfl .none rfl ?_
 refine JA.cont ?_
 refine JA.take 4 (listed' := #[true, true, true, true, true, false, false, false, false, false, false, false, false]) hQ rfl (by kernel_rfl) (by kernel_rfl) (by kernel_rfl) (by kernel_rfl) (by kernel_rfl) hE (HSub.refl _) (.cons_cons _ (List.nil_sublist _)) ?_
 refine JL.lenSL (R := R_Meter) ul_32 hr_10 .none rfl ?_
 refine JA.cont ?_
 refine JA.take 5 (listed' := #[true, true, true, true, true, true, false, false, false, false, false, false, false]) hQ rfl (by kernel_rfl) (by kernel_rfl) (by kernel_rfl) (by kernel_rfl) (by kernel_rfl) hE (HSub.refl _) (.cons_cons _ (List.nil_sublist _)) ?_
 refine JL.bin rfl rfl rfl .none rfl ?_
 refine JA.cont ?_
 refine JA.many [6] (by kernel_rfl) (by simp) (all_one ⟨_, #[true, true, true, true, true, true, true, false, false, false, false, false, false], rfl, (by kernel_rfl), ?_⟩)
 refine JL.callS (c_ref13_within n H meter 0 (w64 ((r.Meters.length : Int) - 1)) y4 hy4) rfl en_66 .none rfl ?_
 refine JA.after hE (HSub.refl _) (.cons_cons _ (List.nil_sublist _)) ?_
 refine JA.many [7] (by kernel_rfl) (by simp) (all_one ⟨_, #[true, true, true, true, true, true, true, true, false, false, false, false, false], rfl, (by kernel_rfl), ?_⟩)
 refine JL.callH (c_ref13_known n H r r_v0 hr_0 r_v7 hr_7 r_v8 hr_8 r_v9 hr_9 r_v10 hr_10 y4 y5 hy5) rfl en_43 .none rfl ?_
 rintro H10 vv11 hs10 ⟨y5a_v0, rfl, hy5a_0⟩
 refine JA.after hE hs10 (.cons_cons _ (List.nil_sublist _)) ?_
 refine JA.take 8 (listed' := #[true, true, true, true, true, true, true, true, true, false, false, false, false]) hQ rfl (by kernel_rfl) (by kernel_rfl) (by kernel_rfl) (by kernel_rfl) (by kernel_rfl) hE hs10 (.cons_cons _ (List.nil_sublist _)) ?_
 refine JL.move .none rfl ?_
 refine JA.cont ?_
 refine JA.take 9 (listed' := #[true, true, true, true, true, true, true, true, true, true, false, false, false]) hQ rfl (by kernel_rfl) (by kernel_rfl) (by kernel_rfl) (by kernel_rfl) (by kernel_rfl) hE hs10 (.cons_cons _ (List.nil_sublist _)) ?_
 refine JL.extract rfl rfl .none rfl ?_
 refine JA.cont ?_
 refine JA.take 10 (listed' := #[true, true, true, true, true, true, true, true, true, true, true, false, false]) hQ rfl (by kernel_rfl) (by kernel_rfl) (by kernel_rfl) (by kernel_rfl) (by kernel_rfl) hE hs10 (.cons_cons _ (List.nil_sublist _)) ?_
 refine JL.extract rfl rfl .none rfl ?_
 refine JA.cont ?_
 refine JA.take 11 (listed' := #[true, true, true, true, true, true, true, true, true, true, true, true, false]) hQ rfl (by kernel_rfl) (by kernel_rfl) (by kernel_rfl) (by kernel_rfl) (by kernel_rfl) hE hs10 (.cons_cons _ (List.nil_sublist _)) ?_
 refine JL.assign .none rfl ?_
 refine JA.cont ?_
 refine JA.take 12 (listed' := #[true, true, true, true, true, true, true, true, true, true, true, true, true]) hQ rfl (by kernel_rfl) (by kernel_rfl) (by kernel_rfl) (by kernel_rfl) (by kernel_rfl) hE hs10 (.cons_cons _ (List.nil_sublist _)) ?_
 refine JL.assign .none rfl ?_
 refine JA.cont ?_
 refine JA.done hQ (by kernel_rfl) ?_
 refine JQ.go ?_
 refine JC.fresh (fun f => f 1 = .int .i64 meter ∧ f 2 = .pointer (some ⟨b1, 0, none⟩) ∧ f 4 = .int .i64 0 ∧ f 5 = .int .i64 0 ∧ f 6 = y5a_v0 ∧ f 7 = .int .i64 y5.2) ⟨rfl, rfl, rfl, rfl, rfl, rfl⟩ ?_
 rintro f ⟨hf1, hf2, hf4, hf5, hf6, hf7⟩
 refine (JC.norm (i := 1) hf1 (JC.norm (i := 2) hf2 (JC.norm (i := 4) hf4 (JC.norm (i := 5) hf5 (JC.norm (i := 6) hf6 (JC.norm (i := 7) hf7 ?_))))))
 refine JC.seq ?_
 refine JC.seq ?_
 refine JC.region (by rfl) ?_
 intro hQ
 refine JL.move .none rfl ?_
 refine JL.bin rfl rfl rfl .none rfl ?_
 refine JL.done hQ ?_
 refine JQ.go ?_
 rcases ite_some hF with ⟨hc12, hF⟩ | ⟨hc12, hF⟩
 ·refine JC.cond_t (b := (y5.2 != 0)) rfl hc12 ?_
  refine JC.seq ?_
  refine JC.region (by rfl) ?_
  intro hQ
  refine JL.move .none rfl ?_
  refine JL.assign .none rfl ?_
  refine JL.assign .none rfl ?_
  refine JL.done hQ ?_
  refine JQ.go ?_
  refine JC.ret ?_
  refine JQ.ret_then ?_
  obtain rfl := Option.some.inj hF
  exact JQ.outS rfl (.tmp (.tmp .nil)) rfl
 ·refine JC.cond_f (b := (y5.2 != 0)) rfl hc12 ?_
  refine JC.skip ?_
  refine JQ.go ?_
  refine JC.seq ?_
  refine JC.region (by rfl) ?_
  intro hQ
  refine JL.assign .none rfl ?_
  refine JL.done hQ ?_
  refine JQ.go ?_
  refine JC.seq ?_
  refine JC.seq ?_
  refine JC.region (by rfl) ?_
  intro hQ
  refine JL.assign .none rfl ?_
  refine JL.done hQ ?_
  refine JQ.go ?_
  obtain ⟨r110, hlr110, hKr110⟩ := bind_some hF
  refine JC.join (fun (some_108 : Int) H109 f bs gs => f 6 = y5a_v0 ∧ f 8 = .int .i64 some_108 ∧ bs = [] ∧ gs = [] ∧ HSub H10 H109 ∧ some_108 = r110) ?_ ?_
  ·skip
   refine JC.block ?_
   refine JC.loop hlr110 (fun (x : Int × Int) H175 f bs gs => match x with | (some_173, i_174) => f 1 = .int .i64 meter ∧ f 2 = .pointer (some ⟨b1, 0, none⟩) ∧ f 6 = y5a_v0 ∧ f 8 = .int .i64 some_173 ∧ f 9 = .int .i64 i_174 ∧ bs = [(b1, .cells [r_v0, .int .i64 r.Canopy.Frame.Low, .int .i64 r.Canopy.Frame.High, .int .i64 r.Canopy.Frame.Ease.Num, .int .i64 r.Canopy.Frame.Ease.Den, .int .i64 r.Canopy.Frame.Rod, .int .i64 r.Canopy.Frame.Case, r_v7, r_v8, r_v9, r_v10, .int .i64 r.Wrong].toArray 34)] ∧ gs = [] ∧ HSub H10 H175) ⟨rfl, rfl, rfl, rfl, rfl, rfl, rfl, (HSub.refl _)⟩ ?_
   rintro ⟨some_173, i_174⟩ x177 H175 f bs gs ⟨hf1, hf2, hf6, hf8, hf9, rfl, rfl, hs175⟩ hF hr176
   rw [F_ref13_Right_s1] at hF
   refine (JC.norm (i := 1) hf1 (JC.norm (i := 2) hf2 (JC.norm (i := 6) hf6 (JC.norm (i := 8) hf8 (JC.norm (i := 9) hf9 ?_)))))
   refine JC.seq ?_
   refine JC.seq ?_
   refine JC.region (by rfl) ?_
   intro hQ
   refine JL.move .none rfl ?_
   refine JL.move .none rfl ?_
   refine JL.lenSL (R := (RSl 1 RInt)) ul_84 (SL.mono (RSl.mono RInt.mono) hs175 hy5a_0) .none rfl ?_
   refine JL.bin rfl rfl rfl .none rfl ?_
   refine JL.done hQ ?_
   refine JQ.go ?_
   rcases ite_some hF with ⟨hc178, hF⟩ | ⟨hc178, hF⟩
   ·refine JC.cond_t (b := decide (i_174 < (y5.1.length : Int))) rfl hc178 ?_
    refine JC.skip ?_
    refine JQ.go ?_
    refine JC.seq ?_
    refine JC.block ?_
    refine JC.seq ?_
    refine JC.draw (by rfl) mo_ (by kernel_rfl) ?_
    intro hQ
    refine JL.fieldAddr fo_34_2 rfl .none rfl ?_
    refine JL.loadOwn 0 az_32 rfl rfl rfl .none rfl ?_
    refine JL.move .none rfl ?_
    obtain ⟨y190, hy190, hF⟩ := bind_some hF
    refine JL.indexSL (R := R_Meter) sl_32 (SL.mono R_Meter_mono (HSub.trans hs10 hs175) hr_10) rfl hy190 .none rfl ?_
    rintro b191 o192 cs193 hc194 - rfl
    refine JL.loadH 0 az_73 rfl hc194 rfl .none rfl ?_
    refine JL.move .none rfl ?_
    refine JL.move .none rfl ?_
    obtain ⟨y195, hy195, hF⟩ := bind_some hF
    refine JL.indexSL (R := (RSl 1 RInt)) sl_84 (SL.mono (RSl.mono RInt.mono) hs175 hy5a_0) rfl hy195 .none rfl ?_
    rintro b196 o197 cs198 hc199 - ⟨y195_v0, rfl, hy195_0⟩
    refine JL.loadH 0 az_28 rfl hc199 rfl .none rfl ?_
    obtain ⟨y200, hy200, hF⟩ := bind_some hF
    refine JL.callS (c_ref13_IsRight n H175 y190 y195 y195_v0 hy195_0 y200 hy200) rfl en_26 .none rfl ?_
    refine JL.doneQ hQ ?_
    refine JQ.go ?_
    refine JC.fresh (fun f => f 1 = .int .i64 meter ∧ f 2 = .pointer (some ⟨b1, 0, none⟩) ∧ f 6 = y5a_v0 ∧ f 8 = .int .i64 some_173 ∧ f 9 = .int .i64 i_174 ∧ f 39 = .bool y200) ⟨rfl, rfl, rfl, rfl, rfl, rfl⟩ ?_
    rintro f ⟨hf1, hf2, hf6, hf8, hf9, hf39⟩
    refine (JC.norm (i := 1) hf1 (JC.norm (i := 2) hf2 (JC.norm (i := 6) hf6 (JC.norm (i := 8) hf8 (JC.norm (i := 9) hf9 (JC.norm (i := 39) hf39 ?_))))))
    obtain ⟨r204, hlr204, hKr204⟩ := bind_some hF
    refine JC.join (fun (some_202 : Int) H203 f bs gs => f 1 = .int .i64 meter ∧ f 2 = .pointer (some ⟨b1, 0, none⟩) ∧ f 6 = y5a_v0 ∧ f 8 = .int .i64 some_202 ∧ f 9 = .int .i64 i_174 ∧ bs = [(b1, .cells [r_v0, .int .i64 r.Canopy.Frame.Low, .int .i64 r.Canopy.Frame.High, .int .i64 r.Canopy.Frame.Ease.Num, .int .i64 r.Canopy.Frame.Ease.Den, .int .i64 r.Canopy.Frame.Rod, .int .i64 r.Canopy.Frame.Case, r_v7, r_v8, r_v9, r_v10, .int .i64 r.Wrong].toArray 34)] ∧ gs = [] ∧ HSub H175 H203 ∧ some_202 = r204) ?_ ?_
    ·have hF := hlr204
     rcases ite_some hF with ⟨hc205, hF⟩ | ⟨hc205, hF⟩
     ·refine JC.cond_t (b := y200) rfl hc205 ?_
      refine JC.region (by rfl) ?_
      intro hQ
      refine JL.move .none rfl ?_
      refine JL.bin rfl rfl rfl .none rfl ?_
      refine JL.assign .none rfl ?_
      refine JL.done hQ ?_
      obtain rfl := Option.some.inj hF
      exact JQ.join (w64 (some_173 + 1)) ⟨rfl, rfl, rfl, rfl, rfl, rfl, rfl, (HSub.refl _), rfl⟩
     ·refine JC.cond_f (b := y200) rfl hc205 ?_
      refine JC.skip ?_
      obtain rfl := Option.some.inj hF
      exact JQ.join some_173 ⟨rfl, rfl, rfl, rfl, rfl, rfl, rfl, (HSub.refl _), rfl⟩
    ·rintro some_202 H203 f bs gs ⟨hf1, hf2, hf6, hf8, hf9, rfl, rfl, hs203, rfl⟩
     have hF := hKr204
     try dsimp only at hF
     refine (JQ.norm (i := 1) hf1 (JQ.norm (i := 2) hf2 (JQ.norm (i := 6) hf6 (JQ.norm (i := 8) hf8 (JQ.norm (i := 9) hf9 ?_)))))
     refine JQ.normal_block ?_
     refine JQ.go ?_
     refine JC.region (by rfl) ?_
     intro hQ
     refine JL.move .none rfl ?_
     refine JL.bin rfl rfl rfl .none rfl ?_
     refine JL.assign .none rfl ?_
     refine JL.done hQ ?_
     obtain rfl := Option.some.inj hF
     exact JQ.next rfl ⟨rfl, rfl, rfl, rfl, rfl, rfl, rfl, (HSub.trans hs175 hs203)⟩
   ·refine JC.cond_f (b := decide (i_174 < (y5.1.length : Int))) rfl hc178 ?_
    refine JC.exit ?_
    refine JQ.exit_then ?_
    refine JQ.exit_then ?_
    refine JQ.exit_block ?_
    obtain rfl := Option.some.inj hF
    have ehr176 := hr176 _ rfl
    subst ehr176
    refine JQ.mask [false] [] ?_
    exact JQ.join some_173 ⟨rfl, rfl, rfl, rfl, hs175, rfl⟩
  ·rintro some_108 H109 f bs gs ⟨hf6, hf8, rfl, rfl, hs109, rfl⟩
   have hF := hKr110
   try dsimp only at hF
   refine (JQ.norm (i := 6) hf6 (JQ.norm (i := 8) hf8 ?_))
   refine JQ.go ?_
   refine JC.seq ?_
   refine JC.region (by rfl) ?_
   intro hQ
   refine JL.move .none rfl ?_
   refine JL.move .none rfl ?_
   refine JL.lenSL (R := (RSl 1 RInt)) ul_84 (SL.mono (RSl.mono RInt.mono) hs109 hy5a_0) .none rfl ?_
   obtain ⟨y206, hy206, hF⟩ := bind_some hF
   refine JL.callS (c_ref13_is n H109 some_108 (y5.1.length : Int) y206 hy206) rfl en_71 .none rfl ?_
   refine JL.assign .none rfl ?_
   refine JL.assign .none rfl ?_
   refine JL.done hQ ?_
   refine JQ.go ?_
   refine JC.ret ?_
   obtain rfl := Option.some.inj hF
   exact JQ.outS rfl (.tmp (.tmp .nil)) rfl
-- 55 ferrule/counts.Reads$1
def F_counts_Reads_1 (n : Nat) (a0 : Blow) (force : Int) (c_0 : Int) : Option Bool :=
 some (decide (c_0 ≤ force))
set_option maxRecDepth 100000 in
set_option maxHeartbeats 40000000 in
theorem c_counts_Reads_1 (n : Nat) (H : Hp) (a0 : Blow) (force : Int) (c_0 : Int) (c_0_b : Nat) (c_0_c : Cells H c_0_b 0 [.int .i64 c_0]) (y : Bool) (hF : F_counts_Reads_1 n a0 force c_0 = some y) : SC Tryz.prog 55 [.agg [.int .i64 a0.At, .int .i64 a0.Force.Low, .int .i64 a0.Force.High].toArray, .int .i64 force, .pointer (some ⟨c_0_b, 0, none⟩)] (.bool y) H := by
 rw [F_counts_Reads_1] at hF
 refine SC.of (N := 9) Tryz.func55 rfl rfl rfl fun w => ?_
 refine JC.seq ?_
 refine JC.region (by rfl) ?_
 intro hQ
 refine JL.box (cs := [.int .i64 a0.At, .int .i64 a0.Force.Low, .int .i64 a0.Force.High]) rfl .none rfl ?_
 intro b1
 refine JL.assign .none rfl ?_
 refine JL.done hQ ?_
 refine JQ.go ?_
 refine JC.seq ?_
 refine JC.region (by rfl) ?_
 intro hQ
 refine JL.move .none rfl ?_
 refine JL.loadH 0 az_3 rfl c_0_c rfl .none rfl ?_
 refine JL.bin rfl rfl rfl .none rfl ?_
 refine JL.assign .none rfl ?_
 refine JL.done hQ ?_
 refine JQ.go ?_
 refine JC.ret ?_
 obtain rfl := Option.some.inj hF
 exact JQ.outS rfl (.tmp .nil) rfl
-- 18 ferrule/counts.Reads
noncomputable def F_counts_Reads (n : Nat) (r : Run) (limit : Int) : Option (Span × Int) :=
 (F_counts_within n limit 0 99).bind fun y5 => (F_counts_bounds n r y5 (fun a0_ a1_ => F_counts_Reads_1 n a0_ a1_ limit)).bind fun y8 => some (y8.1, y8.2)
set_option maxRecDepth 100000 in
set_option maxHeartbeats 40000000 in
theorem c_counts_Reads (n : Nat) (H : Hp) (r : Run) (r_v0 : Value) (hr_0 : SL H 7 R_Section r_v0 r.Canopy.Frame.Sections) (r_v7 : Value) (hr_7 : SL H 2 R_Span r_v7 r.Canopy.Ribs) (r_v8 : Value) (hr_8 : SL H 1 RInt r_v8 r.Canopy.Shares) (r_v9 : Value) (hr_9 : SL H 3 R_Blow r_v9 r.Blows) (r_v10 : Value) (hr_10 : SL H 2 R_Meter r_v10 r.Meters) (limit : Int) (y : Span × Int) (hF : F_counts_Reads n r limit = some y) : SC Tryz.prog 18 [.agg [r_v0, .int .i64 r.Canopy.Frame.Low, .int .i64 r.Canopy.Frame.High, .int .i64 r.Canopy.Frame.Ease.Num, .int .i64 r.Canopy.Frame.Ease.Den, .int .i64 r.Canopy.Frame.Rod, .int .i64 r.Canopy.Frame.Case, r_v7, r_v8, r_v9, r_v10, .int .i64 r.Wrong].toArray, .int .i64 limit] (.tuple [.agg [.int .i64 y.1.Low, .int .i64 y.1.High].toArray, .int .i64 y.2].toArray) H := by
 rw [F_counts_Reads] at hF
 refine SC.of (N := 13) Tryz.func18 rfl rfl rfl fun w => ?_
 refine JC.seq ?_
 refine JC.region (by rfl) ?_
 intro hQ
 refine JL.box (cs := [r_v0, .int .i64 r.Canopy.Frame.Low, .int .i64 r.Canopy.Frame.High, .int .i64 r.Canopy.Frame.Ease.Num, .int .i64 r.Canopy.Frame.Ease.Den, .int .i64 r.Canopy.Frame.Rod, .int .i64 r.Canopy.Frame.Case, r_v7, r_v8, r_v9, r_v10, .int .i64 r.Wrong]) rfl .none rfl ?_
 intro b1
 refine JL.box (cs := [.int .i64 limit]) rfl .none rfl ?_
 intro b2
 refine JL.alloc ze_42 .none rfl ?_
 intro b3
 refine JL.assign .none rfl ?_
 refine JL.done hQ ?_
 refine JQ.go ?_
 refine JC.seq ?_
 obtain ⟨y5, hy5, hF⟩ := bind_some hF
 obtain ⟨y8, hy8, hF⟩ := bind_some hF
 refine JC.mixed 9 9 #[false, false, false, false, false, false, false, false, false] [(b1, .cells [r_v0, .int .i64 r.Canopy.Frame.Low, .int .i64 r.Canopy.Frame.High, .int .i64 r.Canopy.Frame.Ease.Num, .int .i64 r.Canopy.Frame.Ease.Den, .int .i64 r.Canopy.Frame.Rod, .int .i64 r.Canopy.Frame.Case, r_v7, r_v8, r_v9, r_v10, .int .i64 r.Wrong].toArray 34)] (by rfl) mo_ (by kernel_rfl) (by kernel_rfl) ?_
 intro hQ hE
 refine JA.take 0 (listed' := #[true, false, false, false, false, false, false, false, false]) hQ rfl (by kernel_rfl) (by kernel_rfl) (by kernel_rfl) (by kernel_rfl) (by kernel_rfl) hE (HSub.refl _) (.cons _ (.cons _ (.cons_cons _ (List.nil_sublist _)))) ?_
 refine JL.loadOwn 0 az_34 rfl rfl rfl .none rfl ?_
 refine JA.cont ?_
 refine JA.take 3 (listed' := #[true, false, false, true, false, false, false, false, false]) hQ rfl (by kernel_rfl) (by kernel_rfl) (by kernel_rfl) (by kernel_rfl) (by kernel_rfl) hE (HSub.refl _) (.cons _ (.cons _ (.cons_cons _ (List.nil_sublist _)))) ?_
 refine JL.makeFunc .none rfl ?_
 refine JA.cont ?_
 refine JA.many [1] (by kernel_rfl) (by simp) (all_one ⟨_, #[true, true, false, true, false, false, false, false, false], rfl, (by kernel_rfl), ?_⟩)
 refine JL.loadOwn 1 az_3 rfl rfl rfl .none rfl ?_
 refine JA.after hE (HSub.refl _) (.cons _ (.cons _ (.cons_cons _ (List.nil_sublist _)))) ?_
 refine JA.many [2] (by kernel_rfl) (by simp) (all_one ⟨_, #[true, true, true, true, false, false, false, false, false], rfl, (by kernel_rfl), ?_⟩)
 refine JL.callS (c_counts_within n H limit 0 99 y5 hy5) rfl en_54 .none rfl ?_
 refine JA.after hE (HSub.refl _) (.cons _ (.cons _ (.cons_cons _ (List.nil_sublist _)))) ?_
 refine JA.many [4] (by kernel_rfl) (by simp) (all_one ⟨_, #[true, true, true, true, true, false, false, false, false], rfl, (by kernel_rfl), ?_⟩)
 refine JL.freezeC 1 (l := [.int .i64 limit]) rfl ?_
 intro H17 hs17 hc18
 refine JL.callS (c_counts_bounds n H17 r r_v0 (SL.mono R_Section_mono hs17 hr_0) r_v7 (SL.mono R_Span_mono hs17 hr_7) r_v8 (SL.mono RInt.mono hs17 hr_8) r_v9 (SL.mono R_Blow_mono hs17 hr_9) r_v10 (SL.mono R_Meter_mono hs17 hr_10) y5 (fun a0_ a1_ => F_counts_Reads_1 n a0_ a1_ limit) 55 [.pointer (some ⟨b2, 0, none⟩)] en_55 (fun H' hs' a0_ a1_ y' hy' => c_counts_Reads_1 n H' a0_ a1_ limit b2 (Cells.mono hs' hc18) y' hy') y8 hy8) rfl en_41 .none rfl ?_
 refine JA.after hE hs17 (.cons _ (.cons_cons _ (List.nil_sublist _))) ?_
 refine JA.take 5 (listed' := #[true, true, true, true, true, true, false, false, false]) hQ rfl (by kernel_rfl) (by kernel_rfl) (by kernel_rfl) (by kernel_rfl) (by kernel_rfl) hE hs17 (.cons _ (.cons_cons _ (List.nil_sublist _))) ?_
 refine JL.extract rfl rfl .none rfl ?_
 refine JA.cont ?_
 refine JA.take 6 (listed' := #[true, true, true, true, true, true, true, false, false]) hQ rfl (by kernel_rfl) (by kernel_rfl) (by kernel_rfl) (by kernel_rfl) (by kernel_rfl) hE hs17 (.cons _ (.cons_cons _ (List.nil_sublist _))) ?_
 refine JL.extract rfl rfl .none rfl ?_
 refine JA.cont ?_
 refine JA.many [7] (by kernel_rfl) (by simp) (all_one ⟨_, #[true, true, true, true, true, true, true, true, false], rfl, (by kernel_rfl), ?_⟩)
 refine JL.storeOwn 0 (cs := [.int .i64 y8.1.Low, .int .i64 y8.1.High]) az_42 rfl rfl rfl (one_cons rfl (one_cons rfl one_nil)) rfl rfl .none ?_
 refine JA.after hE hs17 (.cons _ (.cons_cons _ (List.nil_sublist _))) ?_
 refine JA.take 8 (listed' := #[true, true, true, true, true, true, true, true, true]) hQ rfl (by kernel_rfl) (by kernel_rfl) (by kernel_rfl) (by kernel_rfl) (by kernel_rfl) hE hs17 (.cons _ (.cons_cons _ (List.nil_sublist _))) ?_
 refine JL.assign .none rfl ?_
 refine JA.cont ?_
 refine JA.done hQ (by kernel_rfl) ?_
 refine JQ.go ?_
 refine JC.ret ?_
 obtain rfl := Option.some.inj hF
 exact JQ.outS rfl (.cell 0 az_42 rfl rfl rfl (.tmp .nil)) rfl
end Go.Proofs.YtcipdblhopffbaaGreat
end
