/-
  A part of the proof of TrTrue: the texts TrGenK6, TrGenK7.
-/
import Derived.Test.YtcipdblhopffbaaGreatJTrTrue5
section
namespace Go.Proofs.YtcipdblhopffbaaGreat
open Go Go.RowKit Go.Dec
set_option linter.unusedVariables false
-- 47 ferrule/counts.open
noncomputable def F_counts_open (n : Nat) (r : Run) (is : Bool) (asked : Blow → Int → Option Bool) : Option ((Option counts_test) × Mp × Int) :=
 (F_counts_Check n r).bind fun y2 => if (y2 != 0) = true then (some ((none : Option counts_test), ([] : Mp), y2)) else (if (!is) = true then (some ((none : Option counts_test), ([] : Mp), 1)) else ((F_counts_test_truths n (counts_test.mk r asked)).bind fun y23 => if ((y23.length : Int) == 0) = true then (some ((none : Option counts_test), ([] : Mp), 3)) else (some ((some (counts_test.mk r asked)), y23, 0))))
set_option maxRecDepth 100000 in
set_option maxHeartbeats 40000000 in
theorem c_counts_open (n : Nat) (H : Hp) (r : Run) (r_v0 : Value) (hr_0 : SL H 7 R_Section r_v0 r.Canopy.Frame.Sections) (r_v7 : Value) (hr_7 : SL H 2 R_Span r_v7 r.Canopy.Ribs) (r_v8 : Value) (hr_8 : SL H 1 RInt r_v8 r.Canopy.Shares) (r_v9 : Value) (hr_9 : SL H 3 R_Blow r_v9 r.Blows) (r_v10 : Value) (hr_10 : SL H 2 R_Meter r_v10 r.Meters) (is : Bool) (asked : Blow → Int → Option Bool) (asked_k : Nat) (asked_c : List Value) (asked_e : Ent Tryz.prog asked_k) (asked_h : ∀ H', HSub H H' → ∀ (a0_ : Blow) (a1_ : Int) (y : Bool), asked a0_ a1_ = some y → SC Tryz.prog asked_k ([.agg [.int .i64 a0_.At, .int .i64 a0_.Force.Low, .int .i64 a0_.Force.High].toArray, .int .i64 a1_] ++ asked_c) (.bool y) H') (y : (Option counts_test) × Mp × Int) (hF : F_counts_open n r is asked = some y) : HC Tryz.prog 47 [.agg [r_v0, .int .i64 r.Canopy.Frame.Low, .int .i64 r.Canopy.Frame.High, .int .i64 r.Canopy.Frame.Ease.Num, .int .i64 r.Canopy.Frame.Ease.Den, .int .i64 r.Canopy.Frame.Rod, .int .i64 r.Canopy.Frame.Case, r_v7, r_v8, r_v9, r_v10, .int .i64 r.Wrong].toArray, .bool is, .func (.func asked_k) #[] asked_c.toArray] H (fun H' v => ∃ ra_v0 rb_v0 : Value, v = .tuple [ra_v0, rb_v0, .int .i64 y.2.2].toArray ∧ PT H' R_counts_test ra_v0 y.1 ∧ MD 6 ekA H' rb_v0 y.2.1) := by
 rw [F_counts_open] at hF
 refine HC.of (N := 30) Tryz.func47 rfl rfl rfl fun w => ?_
 refine JC.seq ?_
 refine JC.region (by rfl) ?_
 intro hQ
 refine JL.box (cs := [r_v0, .int .i64 r.Canopy.Frame.Low, .int .i64 r.Canopy.Frame.High, .int .i64 r.Canopy.Frame.Ease.Num, .int .i64 r.Canopy.Frame.Ease.Den, .int .i64 r.Canopy.Frame.Rod, .int .i64 r.Canopy.Frame.Case, r_v7, r_v8, r_v9, r_v10, .int .i64 r.Wrong]) rfl .none rfl ?_
 intro b1
 refine JL.assign .none rfl ?_
 refine JL.assign .none rfl ?_
 refine JL.assign .none rfl ?_
 refine JL.done hQ ?_
 refine JQ.go ?_
 refine JC.seq ?_
 refine JC.seq ?_
 refine JC.region (by rfl) ?_
 intro hQ
 refine JL.loadOwn 0 az_34 rfl rfl rfl .none rfl ?_
 obtain ⟨y2, hy2, hF⟩ := bind_some hF
 refine JL.callS (c_counts_Check n H r r_v0 hr_0 r_v7 hr_7 r_v8 hr_8 r_v9 hr_9 r_v10 hr_10 y2 hy2) rfl en_27 .none rfl ?_
 refine JL.assign .none rfl ?_
 refine JL.done hQ ?_
 refine JQ.go ?_
 refine JC.seq ?_
 refine JC.region (by rfl) ?_
 intro hQ
 refine JL.move .none rfl ?_
 refine JL.bin rfl rfl rfl .none rfl ?_
 refine JL.done hQ ?_
 refine JQ.go ?_
 rcases ite_some hF with ⟨hc3, hF⟩ | ⟨hc3, hF⟩
 ·refine JC.cond_t (b := (y2 != 0)) rfl hc3 ?_
  refine JC.seq ?_
  refine JC.region (by rfl) ?_
  intro hQ
  refine JL.move .none rfl ?_
  refine JL.assign .none rfl ?_
  refine JL.assign .none rfl ?_
  refine JL.assign .none rfl ?_
  refine JL.done hQ ?_
  refine JQ.go ?_
  refine JC.ret ?_
  refine JQ.ret_then ?_
  obtain rfl := Option.some.inj hF
  exact JQ.outH rfl (.tmp (.tmp (.tmp .nil))) ⟨(.pointer none), (.map none), rfl, rfl, MD.nil⟩
 ·refine JC.cond_f (b := (y2 != 0)) rfl hc3 ?_
  refine JC.skip ?_
  refine JQ.go ?_
  refine JC.seq ?_
  refine JC.seq ?_
  refine JC.region (by rfl) ?_
  intro hQ
  refine JL.move .none rfl ?_
  refine JL.not rfl .none rfl ?_
  refine JL.done hQ ?_
  refine JQ.go ?_
  refine JC.fresh (fun f => f 2 = .func (.func asked_k) #[] asked_c.toArray ∧ f 3 = .pointer (some ⟨b1, 0, none⟩) ∧ f 6 = .pointer none ∧ f 7 = .map none ∧ f 8 = .int .i64 0 ∧ f 18 = .bool (!is)) ⟨rfl, rfl, rfl, rfl, rfl, rfl⟩ ?_
  rintro f ⟨hf2, hf3, hf6, hf7, hf8, hf18⟩
  refine (JC.norm (i := 2) hf2 (JC.norm (i := 3) hf3 (JC.norm (i := 6) hf6 (JC.norm (i := 7) hf7 (JC.norm (i := 8) hf8 (JC.norm (i := 18) hf18 ?_))))))
  rcases ite_some hF with ⟨hc4, hF⟩ | ⟨hc4, hF⟩
  ·refine JC.cond_t (b := (!is)) rfl hc4 ?_
   refine JC.seq ?_
   refine JC.region (by rfl) ?_
   intro hQ
   refine JL.assign .none rfl ?_
   refine JL.assign .none rfl ?_
   refine JL.assign .none rfl ?_
   refine JL.done hQ ?_
   refine JQ.go ?_
   refine JC.ret ?_
   refine JQ.ret_then ?_
   obtain rfl := Option.some.inj hF
   exact JQ.outH rfl (.tmp (.tmp (.tmp .nil))) ⟨(.pointer none), (.map none), rfl, rfl, MD.nil⟩
  ·refine JC.cond_f (b := (!is)) rfl hc4 ?_
   refine JC.skip ?_
   refine JQ.go ?_
   refine JC.seq ?_
   refine JC.region (by rfl) ?_
   intro hQ
   refine JL.loadOwn 0 az_34 rfl rfl rfl .none rfl ?_
   refine JL.move .none rfl ?_
   obtain ⟨a5, c6, rfl, hh7⟩ := hr_0
   have hr_0 : SL H 7 R_Section (.slice a5 r.Canopy.Frame.Sections.length c6) r.Canopy.Frame.Sections := ⟨a5, c6, rfl, hh7⟩
   obtain ⟨a8, c9, rfl, hh10⟩ := hr_7
   have hr_7 : SL H 2 R_Span (.slice a8 r.Canopy.Ribs.length c9) r.Canopy.Ribs := ⟨a8, c9, rfl, hh10⟩
   obtain ⟨a11, c12, rfl, hh13⟩ := hr_8
   have hr_8 : SL H 1 RInt (.slice a11 r.Canopy.Shares.length c12) r.Canopy.Shares := ⟨a11, c12, rfl, hh13⟩
   obtain ⟨a14, c15, rfl, hh16⟩ := hr_9
   have hr_9 : SL H 3 R_Blow (.slice a14 r.Blows.length c15) r.Blows := ⟨a14, c15, rfl, hh16⟩
   obtain ⟨a17, c18, rfl, hh19⟩ := hr_10
   have hr_10 : SL H 2 R_Meter (.slice a17 r.Meters.length c18) r.Meters := ⟨a17, c18, rfl, hh19⟩
   refine JL.build (l := [(.slice a5 r.Canopy.Frame.Sections.length c6), .int .i64 r.Canopy.Frame.Low, .int .i64 r.Canopy.Frame.High, .int .i64 r.Canopy.Frame.Ease.Num, .int .i64 r.Canopy.Frame.Ease.Den, .int .i64 r.Canopy.Frame.Rod, .int .i64 r.Canopy.Frame.Case, (.slice a8 r.Canopy.Ribs.length c9), (.slice a11 r.Canopy.Shares.length c12), (.slice a14 r.Blows.length c15), (.slice a17 r.Meters.length c18), .int .i64 r.Wrong, .func (.func asked_k) #[] asked_c.toArray]) (by kernel_rfl) .none rfl ?_
   refine JL.box (cs := [(.slice a5 r.Canopy.Frame.Sections.length c6), .int .i64 r.Canopy.Frame.Low, .int .i64 r.Canopy.Frame.High, .int .i64 r.Canopy.Frame.Ease.Num, .int .i64 r.Canopy.Frame.Ease.Den, .int .i64 r.Canopy.Frame.Rod, .int .i64 r.Canopy.Frame.Case, (.slice a8 r.Canopy.Ribs.length c9), (.slice a11 r.Canopy.Shares.length c12), (.slice a14 r.Blows.length c15), (.slice a17 r.Meters.length c18), .int .i64 r.Wrong, .func (.func asked_k) #[] asked_c.toArray]) rfl .none rfl ?_
   intro b20
   refine JL.assign .none rfl ?_
   refine JL.done hQ ?_
   refine JQ.go ?_
   refine JC.seq ?_
   refine JC.region (by rfl) ?_
   intro hQ
   refine JL.move .none rfl ?_
   refine JL.freezeC 0 (l := [(.slice a5 r.Canopy.Frame.Sections.length c6), .int .i64 r.Canopy.Frame.Low, .int .i64 r.Canopy.Frame.High, .int .i64 r.Canopy.Frame.Ease.Num, .int .i64 r.Canopy.Frame.Ease.Den, .int .i64 r.Canopy.Frame.Rod, .int .i64 r.Canopy.Frame.Case, (.slice a8 r.Canopy.Ribs.length c9), (.slice a11 r.Canopy.Shares.length c12), (.slice a14 r.Blows.length c15), (.slice a17 r.Meters.length c18), .int .i64 r.Wrong, .func (.func asked_k) #[] asked_c.toArray]) rfl ?_
   intro H21 hs21 hc22
   obtain ⟨y23, hy23, hF⟩ := bind_some hF
   refine JL.callXB (c_counts_test_truths n H21 (counts_test.mk r asked) (.slice a5 r.Canopy.Frame.Sections.length c6) (SL.mono R_Section_mono hs21 hr_0) (.slice a8 r.Canopy.Ribs.length c9) (SL.mono R_Span_mono hs21 hr_7) (.slice a11 r.Canopy.Shares.length c12) (SL.mono RInt.mono hs21 hr_8) (.slice a14 r.Blows.length c15) (SL.mono R_Blow_mono hs21 hr_9) (.slice a17 r.Meters.length c18) (SL.mono R_Meter_mono hs21 hr_10) (.func (.func asked_k) #[] asked_c.toArray) ⟨asked_k, asked_c, rfl, asked_e, (fun H' hs' => asked_h H' (HSub.trans hs21 hs'))⟩ b20 0 hc22 y23 hy23) rfl en_78 .none rfl ?_
   rintro H24 _ _ hs24 ⟨b25, es26, ck27, rfl, rfl, hm28⟩
   refine JL.assign .none rfl ?_
   refine JL.done hQ ?_
   refine JQ.go ?_
   refine JC.fresh (fun f => f 6 = .pointer none ∧ f 7 = .map none ∧ f 8 = .int .i64 0 ∧ f 10 = .pointer (some ⟨b20, 0, none⟩) ∧ f 11 = .map (some b25)) ⟨rfl, rfl, rfl, rfl, rfl⟩ ?_
   rintro f ⟨hf6, hf7, hf8, hf10, hf11⟩
   refine (JC.norm (i := 6) hf6 (JC.norm (i := 7) hf7 (JC.norm (i := 8) hf8 (JC.norm (i := 10) hf10 (JC.norm (i := 11) hf11 ?_)))))
   refine JC.seq ?_
   refine JC.seq ?_
   refine JC.region (by rfl) ?_
   intro hQ
   refine JL.move .none rfl ?_
   refine JL.lenM mp_92 rfl (.own 0 rfl) hm28 .none rfl ?_
   refine JL.bin rfl rfl rfl .none rfl ?_
   refine JL.done hQ ?_
   refine JQ.go ?_
   rcases ite_some hF with ⟨hc29, hF⟩ | ⟨hc29, hF⟩
   ·refine JC.cond_t (b := ((y23.length : Int) == 0)) rfl hc29 ?_
    refine JC.seq ?_
    refine JC.region (by rfl) ?_
    intro hQ
    refine JL.assign .none rfl ?_
    refine JL.assign .none rfl ?_
    refine JL.assign .none rfl ?_
    refine JL.done hQ ?_
    refine JQ.go ?_
    refine JC.ret ?_
    refine JQ.ret_then ?_
    obtain rfl := Option.some.inj hF
    exact JQ.outH rfl (.tmp (.tmp (.tmp .nil))) ⟨(.pointer none), (.map none), rfl, rfl, MD.nil⟩
   ·refine JC.cond_f (b := ((y23.length : Int) == 0)) rfl hc29 ?_
    refine JC.skip ?_
    refine JQ.go ?_
    refine JC.seq ?_
    refine JC.region (by rfl) ?_
    intro hQ
    refine JL.move .none rfl ?_
    refine JL.move .none rfl ?_
    refine JL.assign .none rfl ?_
    refine JL.assign .none rfl ?_
    refine JL.assign .none rfl ?_
    refine JL.done hQ ?_
    refine JQ.go ?_
    refine JC.ret ?_
    refine JQ.freezeM 0 rfl hm28 ?_
    intro H30 hs30 hmd31
    obtain rfl := Option.some.inj hF
    exact JQ.outH rfl (.tmp (.tmp (.tmp .nil))) ⟨(.pointer (some ⟨b20, 0, none⟩)), (.map (some b25)), rfl, ⟨_, _, _, rfl, (Cells.mono (HSub.trans hs24 hs30) hc22), ⟨(.slice a5 r.Canopy.Frame.Sections.length c6), (.slice a8 r.Canopy.Ribs.length c9), (.slice a11 r.Canopy.Shares.length c12), (.slice a14 r.Blows.length c15), (.slice a17 r.Meters.length c18), .func (.func asked_k) #[] asked_c.toArray, rfl, (SL.mono R_Section_mono (HSub.trans hs21 (HSub.trans hs24 hs30)) hr_0), (SL.mono R_Span_mono (HSub.trans hs21 (HSub.trans hs24 hs30)) hr_7), (SL.mono RInt.mono (HSub.trans hs21 (HSub.trans hs24 hs30)) hr_8), (SL.mono R_Blow_mono (HSub.trans hs21 (HSub.trans hs24 hs30)) hr_9), (SL.mono R_Meter_mono (HSub.trans hs21 (HSub.trans hs24 hs30)) hr_10), ⟨asked_k, asked_c, rfl, asked_e, (fun H' hs' => asked_h H' (HSub.trans (HSub.trans hs21 (HSub.trans hs24 hs30)) hs'))⟩⟩⟩, hmd31⟩
-- 48 ferrule/counts.none
def F_counts_none (n : Nat) (a0 : Blow) (a1 : Int) : Option Bool :=
 some false
set_option maxRecDepth 100000 in
set_option maxHeartbeats 40000000 in
theorem c_counts_none (n : Nat) (H : Hp) (a0 : Blow) (a1 : Int) (y : Bool) (hF : F_counts_none n a0 a1 = some y) : SC Tryz.prog 48 [.agg [.int .i64 a0.At, .int .i64 a0.Force.Low, .int .i64 a0.Force.High].toArray, .int .i64 a1] (.bool y) H := by
 rw [F_counts_none] at hF
 refine SC.of (N := 5) Tryz.func48 rfl rfl rfl fun w => ?_
 refine JC.seq ?_
 refine JC.region (by rfl) ?_
 intro hQ
 refine JL.box (cs := [.int .i64 a0.At, .int .i64 a0.Force.Low, .int .i64 a0.Force.High]) rfl .none rfl ?_
 intro b1
 refine JL.assign .none rfl ?_
 refine JL.done hQ ?_
 refine JQ.go ?_
 refine JC.seq ?_
 refine JC.region (by rfl) ?_
 intro hQ
 refine JL.assign .none rfl ?_
 refine JL.done hQ ?_
 refine JQ.go ?_
 refine JC.ret ?_
 obtain rfl := Option.some.inj hF
 exact JQ.outS rfl (.tmp .nil) rfl
-- 79 slices.Clone[[]ferrule/api.Blow,ferrule/api.Blow]
def F_slices_Clone___api_Blow_api_Blow_ (n : Nat) (s : List Blow) : Option (List Blow) := lim s
set_option maxRecDepth 100000 in
theorem c_slices_Clone___api_Blow_api_Blow_ (n : Nat) (H : Hp) (s : List Blow) (s_v0 : Value) (hs_0 : SL H 3 R_Blow s_v0 s) (y : List Blow) (hF : F_slices_Clone___api_Blow_api_Blow_ n s = some y) : OC Tryz.prog 79 [s_v0] H 62 3 (fun m xs => m = y.length ∧ CH H 3 R_Blow xs y) := by
 rw [F_slices_Clone___api_Blow_api_Blow_] at hF
 have hl : lim (([] : List Blow) ++ s) = some y := by rw [List.nil_append]; exact hF
 obtain ⟨rfl, _⟩ := lim_some hF
 obtain ⟨a, c, rfl, hh⟩ := id hs_0
 refine OC.of (N := 8) Tryz.func79 rfl rfl rfl fun w => ?_
 refine JC.seq ?_
 refine JC.region (by rfl) ?_
 intro hQ
 refine JL.assign .none rfl ?_
 refine JL.done hQ ?_
 refine JQ.go ?_
 refine JC.seq ?_
 refine JC.seq ?_
 refine JC.region (by rfl) ?_
 intro hQ
 refine JL.move .none rfl ?_
 refine JL.eqNil ul_31 rfl rfl .none rfl ?_
 refine JL.done hQ ?_
 refine JQ.go ?_
 cases a with
 | none =>
  have hnil : y = [] := by
   rcases hh.2 with h | ⟨b, o, h, _⟩
   ·exact h
   ·cases h
  subst hnil
  refine JC.cond_t (b := true) rfl rfl ?_
  refine JC.seq ?_
  refine JC.region (by rfl) ?_
  intro hQ
  refine JL.assign .none rfl ?_
  refine JL.newNil (e := 62) (sz := 3) ?_
  refine JL.done hQ ?_
  refine JQ.go ?_
  refine JC.ret ?_
  refine JQ.ret_then ?_
  exact JQ.outO 0 rfl rfl rfl ⟨rfl, rfl⟩ ⟨rfl, CH.nil⟩
 | some ad =>
  refine JC.cond_f (b := false) rfl rfl ?_
  refine JC.skip ?_
  refine JQ.go ?_
  refine JC.seq ?_
  refine JC.region (by rfl) ?_
  intro hQ
  refine JL.emptySlice ap_31 .none rfl ?_
  intro v1
  refine JL.move .none rfl ?_
  refine JL.appD (R := R_Blow) 0 (l := ([] : List Blow)) (m := y) ap_31 rfl ⟨rfl, rfl⟩ rfl CH.nil rfl hs_0 (R_Blow_one _) hl .none rfl ?_
  intro v4 xs5 hch6
  refine JL.assign .none rfl ?_
  refine JL.done hQ ?_
  refine JQ.go ?_
  refine JC.ret ?_
  exact JQ.outO 0 rfl rfl rfl ⟨rfl, rfl⟩ ⟨rfl, hch6⟩
-- 49 ferrule/counts.fixed
def F_counts_fixed (n : Nat) (r : Run) (blow : Int) (force : Int) : Option Run :=
 (F_slices_Clone___api_Blow_api_Blow_ n r.Blows).bind fun y3 => (geti y3 blow).bind fun y9 => some (Run.mk r.Canopy (setx y3 blow (Blow.mk y9.At (Span.mk force force))) r.Meters r.Wrong)
set_option maxRecDepth 100000 in
set_option maxHeartbeats 40000000 in
theorem c_counts_fixed (n : Nat) (H : Hp) (r : Run) (r_v0 : Value) (hr_0 : SL H 7 R_Section r_v0 r.Canopy.Frame.Sections) (r_v7 : Value) (hr_7 : SL H 2 R_Span r_v7 r.Canopy.Ribs) (r_v8 : Value) (hr_8 : SL H 1 RInt r_v8 r.Canopy.Shares) (r_v9 : Value) (hr_9 : SL H 3 R_Blow r_v9 r.Blows) (r_v10 : Value) (hr_10 : SL H 2 R_Meter r_v10 r.Meters) (blow : Int) (force : Int) (y : Run) (hF : F_counts_fixed n r blow force = some y) : HC Tryz.prog 49 [.agg [r_v0, .int .i64 r.Canopy.Frame.Low, .int .i64 r.Canopy.Frame.High, .int .i64 r.Canopy.Frame.Ease.Num, .int .i64 r.Canopy.Frame.Ease.Den, .int .i64 r.Canopy.Frame.Rod, .int .i64 r.Canopy.Frame.Case, r_v7, r_v8, r_v9, r_v10, .int .i64 r.Wrong].toArray, .int .i64 blow, .int .i64 force] H (fun H' v => ∃ ra_v0 ra_v7 ra_v8 ra_v9 ra_v10 : Value, v = .agg [ra_v0, .int .i64 y.Canopy.Frame.Low, .int .i64 y.Canopy.Frame.High, .int .i64 y.Canopy.Frame.Ease.Num, .int .i64 y.Canopy.Frame.Ease.Den, .int .i64 y.Canopy.Frame.Rod, .int .i64 y.Canopy.Frame.Case, ra_v7, ra_v8, ra_v9, ra_v10, .int .i64 y.Wrong].toArray ∧ SL H' 7 R_Section ra_v0 y.Canopy.Frame.Sections ∧ SL H' 2 R_Span ra_v7 y.Canopy.Ribs ∧ SL H' 1 RInt ra_v8 y.Canopy.Shares ∧ SL H' 3 R_Blow ra_v9 y.Blows ∧ SL H' 2 R_Meter ra_v10 y.Meters) := by
 rw [F_counts_fixed] at hF
 refine HC.of (N := 20) Tryz.func49 rfl rfl rfl fun w => ?_
 refine JC.seq ?_
 refine JC.region (by rfl) ?_
 intro hQ
 refine JL.box (cs := [r_v0, .int .i64 r.Canopy.Frame.Low, .int .i64 r.Canopy.Frame.High, .int .i64 r.Canopy.Frame.Ease.Num, .int .i64 r.Canopy.Frame.Ease.Den, .int .i64 r.Canopy.Frame.Rod, .int .i64 r.Canopy.Frame.Case, r_v7, r_v8, r_v9, r_v10, .int .i64 r.Wrong]) rfl .none rfl ?_
 intro b1
 refine JL.alloc ze_34 .none rfl ?_
 intro b2
 refine JL.done hQ ?_
 refine JQ.go ?_
 refine JC.seq ?_
 refine JC.region (by rfl) ?_
 intro hQ
 refine JL.fieldAddr fo_34_1 rfl .none rfl ?_
 refine JL.loadOwn 1 az_31 rfl rfl rfl .none rfl ?_
 obtain ⟨y3, hy3, hF⟩ := bind_some hF
 refine JL.callO (c_slices_Clone___api_Blow_api_Blow_ n H r.Blows r_v9 hr_9 y3 hy3) rfl en_79 .none rfl ?_
 rintro v4 _ xs5 ⟨rfl, hch6⟩
 refine JL.fieldAddr fo_34_1 rfl .none rfl ?_
 refine JL.oneG 0 rfl (fun ho8 => ?_)
 refine JL.storeOwn 1 (cs := [v4]) az_31 rfl ho8.2 rfl (one_cons ho8.1 one_nil) rfl rfl .none ?_
 refine JL.done hQ ?_
 refine JQ.go ?_
 refine JC.seq ?_
 refine JC.region (by rfl) ?_
 intro hQ
 refine JL.fieldAddr fo_34_1 rfl .none rfl ?_
 refine JL.loadOwn 1 az_31 rfl rfl rfl .none rfl ?_
 refine JL.move .none rfl ?_
 refine JL.move .none rfl ?_
 refine JL.move .none rfl ?_
 refine JL.build (l := [.int .i64 force, .int .i64 force]) (by kernel_rfl) .none rfl ?_
 obtain ⟨y9, hy9, hF⟩ := bind_some hF
 refine JL.indexG 0 (l := y3) sl_31 rfl rfl rfl rfl hy9 .none rfl ?_
 intro b10 hb11
 refine JL.fieldAddr fo_62_1 rfl .none rfl ?_
 refine JL.storeG (R := R_Blow) 0 (i := blow) (l := y3) (y := y9) (y' := (Blow.mk y9.At (Span.mk force force))) (off := 1) az_42 rfl rfl rfl rfl (one_cons rfl (one_cons rfl one_nil)) rfl hb11 hch6 rfl hy9 rfl (by rintro cs rfl; rfl) .none ?_
 intro xs12 hch13
 refine JL.done hQ ?_
 refine JQ.go ?_
 refine JC.fresh (fun f => f 3 = .pointer (some ⟨b1, 0, none⟩) ∧ f 6 = .pointer (some ⟨b2, 0, none⟩)) ⟨rfl, rfl⟩ ?_
 rintro f ⟨hf3, hf6⟩
 refine (JC.norm (i := 3) hf3 (JC.norm (i := 6) hf6 ?_))
 refine JC.seq ?_
 refine JC.region (by rfl) ?_
 intro hQ
 refine JL.loadOwn 1 az_34 rfl rfl rfl .none rfl ?_
 refine JL.oneG 0 rfl (fun ho14 => ?_)
 refine JL.storeOwn 0 (cs := [r_v0, .int .i64 r.Canopy.Frame.Low, .int .i64 r.Canopy.Frame.High, .int .i64 r.Canopy.Frame.Ease.Num, .int .i64 r.Canopy.Frame.Ease.Den, .int .i64 r.Canopy.Frame.Rod, .int .i64 r.Canopy.Frame.Case, r_v7, r_v8, v4, r_v10, .int .i64 r.Wrong]) az_34 rfl rfl rfl (one_cons (SL.one hr_0) (one_cons rfl (one_cons rfl (one_cons rfl (one_cons rfl (one_cons rfl (one_cons rfl (one_cons (SL.one hr_7) (one_cons (SL.one hr_8) (one_cons ho14.1 (one_cons (SL.one hr_10) (one_cons rfl one_nil)))))))))))) rfl rfl .none ?_
 refine JL.done hQ ?_
 refine JQ.go ?_
 refine JC.ret ?_
 refine JQ.freezeG 0 (R := R_Blow) rfl R_Blow_mono hch13 rfl ?_
 intro H15 hs15 hg16
 obtain rfl := Option.some.inj hF
 exact JQ.outH rfl (.cell 0 az_34 rfl rfl rfl .nil) ⟨r_v0, r_v7, r_v8, v4, r_v10, rfl, (SL.mono R_Section_mono hs15 hr_0), (SL.mono R_Span_mono hs15 hr_7), (SL.mono RInt.mono hs15 hr_8), hg16, (SL.mono R_Meter_mono hs15 hr_10)⟩
-- 23 ferrule/counts.Forces
noncomputable def F_counts_Forces_s1 (n : Nat) (r : Run) (blow : Int) : Int × List Int → Option ((Int × List Int) ⊕ (List Int))
 | (force_210, out_211) => (geti r.Blows blow).bind fun y215 => if decide (force_210 ≤ y215.Force.High) = true then ((F_counts_fixed n r blow force_210).bind fun y221 => (F_counts_open n y221 true (fun a0_ a1_ => F_counts_none n a0_ a1_)).bind fun y224 => (if (y224.2.2 == 0) = true then ((lim (out_211 ++ [force_210])).bind fun l238 => some l238) else (some out_211)).bind fun out_233 => some (Sum.inl ((w64 (force_210 + 1)), out_233))) else (some (Sum.inr out_211))
noncomputable def F_counts_Forces (n : Nat) (r : Run) (blow : Int) : Option ((List Int) × Int) :=
 (F_counts_within n blow 0 (w64 ((r.Blows.length : Int) - 1))).bind fun y4 => (F_counts_open n r y4 (fun a0_ a1_ => F_counts_none n a0_ a1_)).bind fun y5 => if (y5.2.2 != 0) = true then (some (([] : List Int), y5.2.2)) else ((geti r.Blows blow).bind fun y13 => (loopO n (F_counts_Forces_s1 n r blow) (y13.Force.Low, ([] : List Int))).bind fun out_147 => some (out_147, 0))
set_option maxRecDepth 100000 in
set_option maxHeartbeats 40000000 in
theorem c_counts_Forces (n : Nat) (H : Hp) (r : Run) (r_v0 : Value) (hr_0 : SL H 7 R_Section r_v0 r.Canopy.Frame.Sections) (r_v7 : Value) (hr_7 : SL H 2 R_Span r_v7 r.Canopy.Ribs) (r_v8 : Value) (hr_8 : SL H 1 RInt r_v8 r.Canopy.Shares) (r_v9 : Value) (hr_9 : SL H 3 R_Blow r_v9 r.Blows) (r_v10 : Value) (hr_10 : SL H 2 R_Meter r_v10 r.Meters) (blow : Int) (y : (List Int) × Int) (hF : F_counts_Forces n r blow = some y) : HC Tryz.prog 23 [.agg [r_v0, .int .i64 r.Canopy.Frame.Low, .int .i64 r.Canopy.Frame.High, .int .i64 r.Canopy.Frame.Ease.Num, .int .i64 r.Canopy.Frame.Ease.Den, .int .i64 r.Canopy.Frame.Rod, .int .i64 r.Canopy.Frame.Case, r_v7, r_v8, r_v9, r_v10, .int .i64 r.Wrong].toArray, .int .i64 blow] H (fun H' v => ∃ ra_v0 : Value, v = .tuple [ra_v0, .int .i64 y.2].toArray ∧ SL H' 1 RInt ra_v0 y.1) := by
 rw [F_counts_Forces] at hF
 refine HC.of (N := 63) Tryz.func23 rfl rfl rfl fun w => ?_
 refine JC.seq ?_
 refine JC.region (by rfl) ?_
 intro hQ
 refine JL.box (cs := [r_v0, .int .i64 r.Canopy.Frame.Low, .int .i64 r.Canopy.Frame.High, .int .i64 r.Canopy.Frame.Ease.Num, .int .i64 r.Canopy.Frame.Ease.Den, .int .i64 r.Canopy.Frame.Rod, .int .i64 r.Canopy.Frame.Case, r_v7, r_v8, r_v9, r_v10, .int .i64 r.Wrong]) rfl .none rfl ?_
 intro b1
 refine JL.assign .none rfl ?_
 refine JL.assign .none rfl ?_
 refine JL.done hQ ?_
 refine JQ.go ?_
 refine JC.seq ?_
 refine JC.seq ?_
 obtain ⟨y4, hy4, hF⟩ := bind_some hF
 obtain ⟨y5, hy5, hF⟩ := bind_some hF
 refine JC.mixed 15 15 #[false, false, false, false, false, false, false, false, false, false, false, false, false, false, false] [(b1, .cells [r_v0, .int .i64 r.Canopy.Frame.Low, .int .i64 r.Canopy.Frame.High, .int .i64 r.Canopy.Frame.Ease.Num, .int .i64 r.Canopy.Frame.Ease.Den, .int .i64 r.Canopy.Frame.Rod, .int .i64 r.Canopy.Frame.Case, r_v7, r_v8, r_v9, r_v10, .int .i64 r.Wrong].toArray 34)] (by rfl) mo_ (by kernel_rfl) (by kernel_rfl) ?_
 intro hQ hE
 refine JA.take 0 (listed' := #[true, false, false, false, false, false, false, false, false, false, false, false, false, false, false]) hQ rfl (by kernel_rfl) (by kernel_rfl) (by kernel_rfl) (by kernel_rfl) (by kernel_rfl) hE (HSub.refl _) (.cons_cons _ (List.nil_sublist _)) ?_
 refine JL.loadOwn 0 az_34 rfl rfl rfl .none rfl ?_
 refine JA.cont ?_
 refine JA.take 1 (listed' := #[true, true, false, false, false, false, false, false, false, false, false, false, false, false, false]) hQ rfl (by kernel_rfl) (by kernel_rfl) (by kernel_rfl) (by kernel_rfl) (by kernel_rfl) hE (HSub.refl _) (.cons_cons _ (List.nil_sublist _)) ?_
 refine JL.move .none rfl ?_
 refine JA.cont ?_
 refine JA.take 2 (listed' := #[true, true, true, false, false, false, false, false, false, false, false, false, false, false, false]) hQ rfl (by kernel_rfl) (by kernel_rfl) (by kernel_rfl) (by kernel_rfl) (by kernel_rfl) hE (HSub.refl _) (.cons_cons _ (List.nil_sublist _)) ?_
 refine JL.fieldAddr fo_34_1 rfl .none rfl ?_
 refine JA.cont ?_
 refine JA.take 3 (listed' := #[true, true, true, true, false, false, false, false, false, false, false, false, false, false, false]) hQ rfl (by kernel_rfl) (by kernel_rfl) (by kernel_rfl) (by kernel_rfl) (by kernel_rfl) hE (HSub.refl _) (.cons_cons _ (List.nil_sublist _)) ?_
 refine JL.loadOwn 0 az_31 rfl rfl rfl .none rfl ?_
 refine JA.cont ?_
 refine JA.take 4 (listed' := #[true, true, true, true, true, false, false, false, false, false, false, false, false, false, false]) hQ rfl (by kernel_rfl) (by kernel_rfl) (by kernel_rfl) (by kernel_rfl) (by kernel_rfl) hE (HSub.refl _) (.cons_cons _ (List.nil_sublist _)) ?_
 refine JL.lenSL (R := R_Blow) ul_31 hr_9 .none rfl ?_
 refine JA.cont ?_
 refine JA.take 5 (listed' := #[true, true, true, true, true, true, false, false, false, false, false, false, false, false, false]) hQ rfl (by kernel_rfl) (by kernel_rfl) (by kernel_rfl) (by kernel_rfl) (by kernel_rfl) hE (HSub.refl _) (.cons_cons _ (List.nil_sublist _)) ?_
 refine JL.bin rfl rfl rfl .none rfl ?_
 refine JA.cont ?_
 refine JA.many [6] (by kernel_rfl) (by simp) (all_one ⟨_, #[true, true, true, true, true, true, true, false, false, false, false, false, false, false, false], rfl, (by kernel_rfl), ?_⟩)
 refine JL.callS (c_counts_within n H blow 0 (w64 ((r.Blows.length : Int) - 1)) y4 hy4) rfl en_54 .none rfl ?_
 refine JA.after hE (HSub.refl _) (.cons_cons _ (List.nil_sublist _)) ?_
 refine JA.many [7] (by kernel_rfl) (by simp) (all_one ⟨_, #[true, true, true, true, true, true, true, true, false, false, false, false, false, false, false], rfl, (by kernel_rfl), ?_⟩)
 refine JL.callH (c_counts_open n H r r_v0 hr_0 r_v7 hr_7 r_v8 hr_8 r_v9 hr_9 r_v10 hr_10 y4 (fun a0_ a1_ => F_counts_none n a0_ a1_) 48 [] en_48 (fun H' hs' a0_ a1_ y' hy' => c_counts_none n H' a0_ a1_ y' hy') y5 hy5) rfl en_47 .none rfl ?_
 rintro H10 vv11 hs10 ⟨y5a_v0, y5b_v0, rfl, hy5a_0, hy5b_0⟩
 refine JA.after hE hs10 (.cons_cons _ (List.nil_sublist _)) ?_
 refine JA.take 8 (listed' := #[true, true, true, true, true, true, true, true, true, false, false, false, false, false, false]) hQ rfl (by kernel_rfl) (by kernel_rfl) (by kernel_rfl) (by kernel_rfl) (by kernel_rfl) hE hs10 (.cons_cons _ (List.nil_sublist _)) ?_
 refine JL.move .none rfl ?_
 refine JA.cont ?_
 refine JA.take 9 (listed' := #[true, true, true, true, true, true, true, true, true, true, false, false, false, false, false]) hQ rfl (by kernel_rfl) (by kernel_rfl) (by kernel_rfl) (by kernel_rfl) (by kernel_rfl) hE hs10 (.cons_cons _ (List.nil_sublist _)) ?_
 refine JL.extract rfl rfl .none rfl ?_
 refine JA.cont ?_
 refine JA.take 10 (listed' := #[true, true, true, true, true, true, true, true, true, true, true, false, false, false, false]) hQ rfl (by kernel_rfl) (by kernel_rfl) (by kernel_rfl) (by kernel_rfl) (by kernel_rfl) hE hs10 (.cons_cons _ (List.nil_sublist _)) ?_
 refine JL.extract rfl rfl .none rfl ?_
 refine JA.cont ?_
 refine JA.take 11 (listed' := #[true, true, true, true, true, true, true, true, true, true, true, true, false, false, false]) hQ rfl (by kernel_rfl) (by kernel_rfl) (by kernel_rfl) (by kernel_rfl) (by kernel_rfl) hE hs10 (.cons_cons _ (List.nil_sublist _)) ?_
 refine JL.extract rfl rfl .none rfl ?_
 refine JA.cont ?_
 refine JA.take 12 (listed' := #[true, true, true, true, true, true, true, true, true, true, true, true, true, false, false]) hQ rfl (by kernel_rfl) (by kernel_rfl) (by kernel_rfl) (by kernel_rfl) (by kernel_rfl) hE hs10 (.cons_cons _ (List.nil_sublist _)) ?_
 refine JL.assign .none rfl ?_
 refine JA.cont ?_
 refine JA.take 13 (listed' := #[true, true, true, true, true, true, true, true, true, true, true, true, true, true, false]) hQ rfl (by kernel_rfl) (by kernel_rfl) (by kernel_rfl) (by kernel_rfl) (by kernel_rfl) hE hs10 (.cons_cons _ (List.nil_sublist _)) ?_
 refine JL.assign .none rfl ?_
 refine JA.cont ?_
 refine JA.take 14 (listed' := #[true, true, true, true, true, true, true, true, true, true, true, true, true, true, true]) hQ rfl (by kernel_rfl) (by kernel_rfl) (by kernel_rfl) (by kernel_rfl) (by kernel_rfl) hE hs10 (.cons_cons _ (List.nil_sublist _)) ?_
 refine JL.assign .none rfl ?_
 refine JA.cont ?_
 refine JA.done hQ (by kernel_rfl) ?_
 refine JQ.go ?_
 refine JC.fresh (fun f => f 1 = .int .i64 blow ∧ f 2 = .pointer (some ⟨b1, 0, none⟩) ∧ f 4 = .slice none 0 0 ∧ f 5 = .int .i64 0 ∧ f 8 = .int .i64 y5.2.2) ⟨rfl, rfl, rfl, rfl, rfl⟩ ?_
 rintro f ⟨hf1, hf2, hf4, hf5, hf8⟩
 refine (JC.norm (i := 1) hf1 (JC.norm (i := 2) hf2 (JC.norm (i := 4) hf4 (JC.norm (i := 5) hf5 (JC.norm (i := 8) hf8 ?_)))))
 refine JC.seq ?_
 refine JC.region (by rfl) ?_
 intro hQ
 refine JL.move .none rfl ?_
 refine JL.bin rfl rfl rfl .none rfl ?_
 refine JL.done hQ ?_
 refine JQ.go ?_
 rcases ite_some hF with ⟨hc12, hF⟩ | ⟨hc12, hF⟩
 ·refine JC.cond_t (b := (y5.2.2 != 0)) rfl hc12 ?_
  refine JC.seq ?_
  refine JC.region (by rfl) ?_
  intro hQ
  refine JL.move .none rfl ?_
  refine JL.assign .none rfl ?_
  refine JL.assign .none rfl ?_
  refine JL.done hQ ?_
  refine JQ.go ?_
  refine JC.ret ?_
  refine JQ.ret_then ?_
  obtain rfl := Option.some.inj hF
  exact JQ.outH rfl (.tmp (.tmp .nil)) ⟨(.slice none 0 0), rfl, SL.nil⟩
 ·refine JC.cond_f (b := (y5.2.2 != 0)) rfl hc12 ?_
  refine JC.skip ?_
  refine JQ.go ?_
  refine JC.seq ?_
  refine JC.region (by rfl) ?_
  intro hQ
  refine JL.assign .none rfl ?_
  refine JL.done hQ ?_
  refine JQ.go ?_
  refine JC.seq ?_
  refine JC.seq ?_
  refine JC.region (by rfl) ?_
  intro hQ
  refine JL.fieldAddr fo_34_1 rfl .none rfl ?_
  refine JL.loadOwn 0 az_31 rfl rfl rfl .none rfl ?_
  refine JL.move .none rfl ?_
  obtain ⟨y13, hy13, hF⟩ := bind_some hF
  refine JL.indexSL (R := R_Blow) sl_31 (SL.mono R_Blow_mono hs10 hr_9) rfl hy13 .none rfl ?_
  rintro b14 o15 cs16 hc17 - rfl
  refine JL.fieldAddr fo_62_1 rfl .none rfl ?_
  refine JL.fieldAddr fo_42_0 rfl .none rfl ?_
  refine JL.loadH 1 az_3 rfl hc17 rfl .none rfl ?_
  refine JL.assign .none rfl ?_
  refine JL.done hQ ?_
  refine JQ.go ?_
  refine JC.fresh (fun f => f 1 = .int .i64 blow ∧ f 2 = .pointer (some ⟨b1, 0, none⟩) ∧ f 4 = .slice none 0 0 ∧ f 5 = .int .i64 0 ∧ f 9 = .slice none 0 0 ∧ f 10 = .int .i64 y13.Force.Low) ⟨rfl, rfl, rfl, rfl, rfl, rfl⟩ ?_
  rintro f ⟨hf1, hf2, hf4, hf5, hf9, hf10⟩
  refine (JC.norm (i := 1) hf1 (JC.norm (i := 2) hf2 (JC.norm (i := 4) hf4 (JC.norm (i := 5) hf5 (JC.norm (i := 9) hf9 (JC.norm (i := 10) hf10 ?_))))))
  refine JC.newNil (e := 3) (sz := 1) ?_
  obtain ⟨r149, hlr149, hKr149⟩ := bind_some hF
  refine JC.join (fun (out_147 : List Int) H148 f bs gs => ∃ (vout_147 : Value) (xsout_147 : List Value), f 9 = vout_147 ∧ bs = [] ∧ gs = [⟨vout_147, 3, 1, out_147.length, xsout_147⟩] ∧ CH H148 1 RInt xsout_147 out_147 ∧ HSub H10 H148 ∧ out_147 = r149) ?_ ?_
  ·skip
   refine JC.block ?_
   refine JC.loop hlr149 (fun (x : Int × List Int) H212 f bs gs => match x with | (force_210, out_211) => ∃ (vout_211 : Value) (xsout_211 : List Value), f 1 = .int .i64 blow ∧ f 2 = .pointer (some ⟨b1, 0, none⟩) ∧ f 9 = vout_211 ∧ f 10 = .int .i64 force_210 ∧ bs = [(b1, .cells [r_v0, .int .i64 r.Canopy.Frame.Low, .int .i64 r.Canopy.Frame.High, .int .i64 r.Canopy.Frame.Ease.Num, .int .i64 r.Canopy.Frame.Ease.Den, .int .i64 r.Canopy.Frame.Rod, .int .i64 r.Canopy.Frame.Case, r_v7, r_v8, r_v9, r_v10, .int .i64 r.Wrong].toArray 34)] ∧ gs = [⟨vout_211, 3, 1, out_211.length, xsout_211⟩] ∧ CH H212 1 RInt xsout_211 out_211 ∧ HSub H10 H212) ⟨(.slice none 0 0), [], rfl, rfl, rfl, rfl, rfl, rfl, CH.nil, (HSub.refl _)⟩ ?_
   rintro ⟨force_210, out_211⟩ x214 H212 f bs gs ⟨vout_211, xsout_211, hf1, hf2, hf9, hf10, rfl, rfl, hout_211, hs212⟩ hF hr213
   rw [F_counts_Forces_s1] at hF
   refine (JC.norm (i := 1) hf1 (JC.norm (i := 2) hf2 (JC.norm (i := 9) hf9 (JC.norm (i := 10) hf10 ?_))))
   refine JC.seq ?_
   refine JC.seq ?_
   refine JC.region (by rfl) ?_
   intro hQ
   refine JL.move .none rfl ?_
   refine JL.fieldAddr fo_34_1 rfl .none rfl ?_
   refine JL.loadOwn 0 az_31 rfl rfl rfl .none rfl ?_
   refine JL.move .none rfl ?_
   obtain ⟨y215, hy215, hF⟩ := bind_some hF
   refine JL.indexSL (R := R_Blow) sl_31 (SL.mono R_Blow_mono (HSub.trans hs10 hs212) hr_9) rfl hy215 .none rfl ?_
   rintro b216 o217 cs218 hc219 - rfl
   refine JL.fieldAddr fo_62_1 rfl .none rfl ?_
   refine JL.fieldAddr fo_42_1 rfl .none rfl ?_
   refine JL.loadH 2 az_3 rfl hc219 rfl .none rfl ?_
   refine JL.bin rfl rfl rfl .none rfl ?_
   refine JL.done hQ ?_
   refine JQ.go ?_
   rcases ite_some hF with ⟨hc220, hF⟩ | ⟨hc220, hF⟩
   ·refine JC.cond_t (b := decide (force_210 ≤ y215.Force.High)) rfl hc220 ?_
    refine JC.skip ?_
    refine JQ.go ?_
    refine JC.seq ?_
    refine JC.block ?_
    refine JC.seq ?_
    refine JC.region (by rfl) ?_
    intro hQ
    refine JL.loadOwn 0 az_34 rfl rfl rfl .none rfl ?_
    refine JL.move .none rfl ?_
    refine JL.move .none rfl ?_
    obtain ⟨y221, hy221, hF⟩ := bind_some hF
    refine JL.callH (c_counts_fixed n H212 r r_v0 (SL.mono R_Section_mono (HSub.trans hs10 hs212) hr_0) r_v7 (SL.mono R_Span_mono (HSub.trans hs10 hs212) hr_7) r_v8 (SL.mono RInt.mono (HSub.trans hs10 hs212) hr_8) r_v9 (SL.mono R_Blow_mono (HSub.trans hs10 hs212) hr_9) r_v10 (SL.mono R_Meter_mono (HSub.trans hs10 hs212) hr_10) blow force_210 y221 hy221) rfl en_49 .none rfl ?_
    rintro H222 vv223 hs222 ⟨y221a_v0, y221a_v7, y221a_v8, y221a_v9, y221a_v10, rfl, hy221a_0, hy221a_7, hy221a_8, hy221a_9, hy221a_10⟩
    obtain ⟨y224, hy224, hF⟩ := bind_some hF
    refine JL.callH (c_counts_open n H222 y221 y221a_v0 hy221a_0 y221a_v7 hy221a_7 y221a_v8 hy221a_8 y221a_v9 hy221a_9 y221a_v10 hy221a_10 true (fun a0_ a1_ => F_counts_none n a0_ a1_) 48 [] en_48 (fun H' hs' a0_ a1_ y' hy' => c_counts_none n H' a0_ a1_ y' hy') y224 hy224) rfl en_47 .none rfl ?_
    rintro H225 vv226 hs225 ⟨y224a_v0, y224b_v0, rfl, hy224a_0, hy224b_0⟩
    refine JL.move .none rfl ?_
    refine JL.extract rfl rfl .none rfl ?_
    refine JL.extract rfl rfl .none rfl ?_
    refine JL.extract rfl rfl .none rfl ?_
    refine JL.assign .none rfl ?_
    refine JL.assign .none rfl ?_
    refine JL.assign .none rfl ?_
    refine JL.done hQ ?_
    refine JQ.go ?_
    refine JC.fresh (fun f => f 1 = .int .i64 blow ∧ f 2 = .pointer (some ⟨b1, 0, none⟩) ∧ f 9 = vout_211 ∧ f 10 = .int .i64 force_210 ∧ f 13 = .int .i64 y224.2.2) ⟨rfl, rfl, rfl, rfl, rfl⟩ ?_
    rintro f ⟨hf1, hf2, hf9, hf10, hf13⟩
    refine (JC.norm (i := 1) hf1 (JC.norm (i := 2) hf2 (JC.norm (i := 9) hf9 (JC.norm (i := 10) hf10 (JC.norm (i := 13) hf13 ?_)))))
    refine JC.seq ?_
    refine JC.region (by rfl) ?_
    intro hQ
    refine JL.move .none rfl ?_
    refine JL.bin rfl rfl rfl .none rfl ?_
    refine JL.done hQ ?_
    refine JQ.go ?_
    obtain ⟨r235, hlr235, hKr235⟩ := bind_some hF
    refine JC.join (fun (out_233 : List Int) H234 f bs gs => ∃ (vout_233 : Value) (xsout_233 : List Value), f 1 = .int .i64 blow ∧ f 2 = .pointer (some ⟨b1, 0, none⟩) ∧ f 9 = vout_233 ∧ f 10 = .int .i64 force_210 ∧ bs = [(b1, .cells [r_v0, .int .i64 r.Canopy.Frame.Low, .int .i64 r.Canopy.Frame.High, .int .i64 r.Canopy.Frame.Ease.Num, .int .i64 r.Canopy.Frame.Ease.Den, .int .i64 r.Canopy.Frame.Rod, .int .i64 r.Canopy.Frame.Case, r_v7, r_v8, r_v9, r_v10, .int .i64 r.Wrong].toArray 34)] ∧ gs = [⟨vout_233, 3, 1, out_233.length, xsout_233⟩] ∧ CH H234 1 RInt xsout_233 out_233 ∧ HSub H225 H234 ∧ out_233 = r235) ?_ ?_
    ·have hF := hlr235
     rcases ite_some hF with ⟨hc236, hF⟩ | ⟨hc236, hF⟩
     ·refine JC.cond_t (b := (y224.2.2 == 0)) rfl hc236 ?_
      refine JC.region (by rfl) ?_
      intro hQ
      refine JL.move .none rfl ?_
      refine JL.move .none rfl ?_
      refine JL.buildSlice (e := 3) (l := [.int .i64 force_210]) (by kernel_rfl) .none rfl ?_
      intro b237
      obtain ⟨l238, hl238, hF⟩ := bind_some hF
      refine JL.appO (R := RInt) 0 0 (l := out_211) (m := [force_210]) ap_28 rfl ⟨rfl, rfl⟩ rfl (CH.mono RInt.mono (HSub.trans hs222 hs225) hout_211) rfl rfl rfl (CH.cons (cs := [.int .i64 force_210]) rfl rfl CH.nil) rfl (one_cons rfl one_nil) hl238 .none rfl ?_
      intro v239 xs240 hch241
      refine JL.assign .none rfl ?_
      refine JL.done hQ ?_
      obtain rfl := Option.some.inj hF
      refine JQ.mask [false, true] [true] ?_
      exact JQ.join l238 ⟨v239, xs240, rfl, rfl, rfl, rfl, rfl, rfl, hch241, (HSub.refl _), rfl⟩
     ·refine JC.cond_f (b := (y224.2.2 == 0)) rfl hc236 ?_
      refine JC.skip ?_
      obtain rfl := Option.some.inj hF
      exact JQ.join out_211 ⟨vout_211, xsout_211, rfl, rfl, rfl, rfl, rfl, rfl, (CH.mono RInt.mono (HSub.trans hs222 hs225) hout_211), (HSub.refl _), rfl⟩
    ·rintro out_233 H234 f bs gs ⟨vout_233, xsout_233, hf1, hf2, hf9, hf10, rfl, rfl, hout_233, hs234, rfl⟩
     have hF := hKr235
     try dsimp only at hF
     refine (JQ.norm (i := 1) hf1 (JQ.norm (i := 2) hf2 (JQ.norm (i := 9) hf9 (JQ.norm (i := 10) hf10 ?_))))
     refine JQ.normal_block ?_
     refine JQ.go ?_
     refine JC.region (by rfl) ?_
     intro hQ
     refine JL.move .none rfl ?_
     refine JL.bin rfl rfl rfl .none rfl ?_
     refine JL.assign .none rfl ?_
     refine JL.done hQ ?_
     obtain rfl := Option.some.inj hF
     exact JQ.next rfl ⟨vout_233, xsout_233, rfl, rfl, rfl, rfl, rfl, rfl, hout_233, (HSub.trans hs212 (HSub.trans hs222 (HSub.trans hs225 hs234)))⟩
   ·refine JC.cond_f (b := decide (force_210 ≤ y215.Force.High)) rfl hc220 ?_
    refine JC.exit ?_
    refine JQ.exit_then ?_
    refine JQ.exit_then ?_
    refine JQ.exit_block ?_
    obtain rfl := Option.some.inj hF
    have ehr213 := hr213 _ rfl
    subst ehr213
    refine JQ.mask [false] [true] ?_
    exact JQ.join out_211 ⟨vout_211, xsout_211, rfl, rfl, rfl, hout_211, hs212, rfl⟩
  ·rintro out_147 H148 f bs gs ⟨vout_147, xsout_147, hf9, rfl, rfl, hout_147, hs148, rfl⟩
   have hF := hKr149
   try dsimp only at hF
   refine (JQ.norm (i := 9) hf9 ?_)
   refine JQ.go ?_
   refine JC.seq ?_
   refine JC.region (by rfl) ?_
   intro hQ
   refine JL.move .none rfl ?_
   refine JL.assign .none rfl ?_
   refine JL.assign .none rfl ?_
   refine JL.done hQ ?_
   refine JQ.go ?_
   refine JC.ret ?_
   refine JQ.freezeG 0 (R := RInt) rfl RInt.mono hout_147 rfl ?_
   intro H242 hs242 hg243
   obtain rfl := Option.some.inj hF
   exact JQ.outH rfl (.tmp (.tmp .nil)) ⟨vout_147, rfl, hg243⟩
-- 34 ferrule/counts.Many
noncomputable def F_counts_Many_s1 (n : Nat)  : Int → List Int × Int → Option Int
 | sum_100, (kl108, v109) => some (w64 (sum_100 + v109))
noncomputable def F_counts_Many (n : Nat) (r : Run) : Option (Int × Int) :=
 (F_counts_open n r true (fun a0_ a1_ => F_counts_none n a0_ a1_)).bind fun y2 => if (y2.2.2 != 0) = true then (some (0, y2.2.2)) else ((neM y2.2.1).bind fun _ => ((permO (F_counts_Many_s1 n) 0 y2.2.1).bind fun z121 => match z121 with | sum_100 => some sum_100).bind fun sum_68 => some (sum_68, 0))
set_option maxRecDepth 100000 in
set_option maxHeartbeats 40000000 in
theorem c_counts_Many (n : Nat) (H : Hp) (r : Run) (r_v0 : Value) (hr_0 : SL H 7 R_Section r_v0 r.Canopy.Frame.Sections) (r_v7 : Value) (hr_7 : SL H 2 R_Span r_v7 r.Canopy.Ribs) (r_v8 : Value) (hr_8 : SL H 1 RInt r_v8 r.Canopy.Shares) (r_v9 : Value) (hr_9 : SL H 3 R_Blow r_v9 r.Blows) (r_v10 : Value) (hr_10 : SL H 2 R_Meter r_v10 r.Meters) (y : Int × Int) (hF : F_counts_Many n r = some y) : SC Tryz.prog 34 [.agg [r_v0, .int .i64 r.Canopy.Frame.Low, .int .i64 r.Canopy.Frame.High, .int .i64 r.Canopy.Frame.Ease.Num, .int .i64 r.Canopy.Frame.Ease.Den, .int .i64 r.Canopy.Frame.Rod, .int .i64 r.Canopy.Frame.Case, r_v7, r_v8, r_v9, r_v10, .int .i64 r.Wrong].toArray] (.tuple [.int .i64 y.1, .int .i64 y.2].toArray) H := by
 rw [F_counts_Many] at hF
 refine SC.of (N := 29) Tryz.func34 rfl rfl rfl fun w => ?_
 refine JC.seq ?_
 refine JC.region (by rfl) ?_
 intro hQ
 refine JL.box (cs := [r_v0, .int .i64 r.Canopy.Frame.Low, .int .i64 r.Canopy.Frame.High, .int .i64 r.Canopy.Frame.Ease.Num, .int .i64 r.Canopy.Frame.Ease.Den, .int .i64 r.Canopy.Frame.Rod, .int .i64 r.Canopy.Frame.Case, r_v7, r_v8, r_v9, r_v10, .int .i64 r.Wrong]) rfl .none rfl ?_
 intro b1
 refine JL.assign .none rfl ?_
 refine JL.assign .none rfl ?_
 refine JL.done hQ ?_
 refine JQ.go ?_
 refine JC.seq ?_
 refine JC.region (by rfl) ?_
 intro hQ
 refine JL.loadOwn 0 az_34 rfl rfl rfl .none rfl ?_
 obtain ⟨y2, hy2, hF⟩ := bind_some hF
 refine JL.callH (c_counts_open n H r r_v0 hr_0 r_v7 hr_7 r_v8 hr_8 r_v9 hr_9 r_v10 hr_10 true (fun a0_ a1_ => F_counts_none n a0_ a1_) 48 [] en_48 (fun H' hs' a0_ a1_ y' hy' => c_counts_none n H' a0_ a1_ y' hy') y2 hy2) rfl en_47 .none rfl ?_
 rintro H3 vv4 hs3 ⟨y2a_v0, y2b_v0, rfl, hy2a_0, hy2b_0⟩
 refine JL.move .none rfl ?_
 refine JL.extract rfl rfl .none rfl ?_
 refine JL.extract rfl rfl .none rfl ?_
 refine JL.extract rfl rfl .none rfl ?_
 refine JL.assign .none rfl ?_
 refine JL.assign .none rfl ?_
 refine JL.assign .none rfl ?_
 refine JL.done hQ ?_
 refine JQ.go ?_
 refine JC.seq ?_
 refine JC.seq ?_
 refine JC.region (by rfl) ?_
 intro hQ
 refine JL.move .none rfl ?_
 refine JL.bin rfl rfl rfl .none rfl ?_
 refine JL.done hQ ?_
 refine JQ.go ?_
 refine JC.fresh (fun f => f 2 = .int .i64 0 ∧ f 3 = .int .i64 0 ∧ f 5 = y2b_v0 ∧ f 6 = .int .i64 y2.2.2 ∧ f 17 = .bool (y2.2.2 != 0)) ⟨rfl, rfl, rfl, rfl, rfl⟩ ?_
 rintro f ⟨hf2, hf3, hf5, hf6, hf17⟩
 refine (JC.norm (i := 2) hf2 (JC.norm (i := 3) hf3 (JC.norm (i := 5) hf5 (JC.norm (i := 6) hf6 (JC.norm (i := 17) hf17 ?_)))))
 rcases ite_some hF with ⟨hc5, hF⟩ | ⟨hc5, hF⟩
 ·refine JC.cond_t (b := (y2.2.2 != 0)) rfl hc5 ?_
  refine JC.seq ?_
  refine JC.region (by rfl) ?_
  intro hQ
  refine JL.move .none rfl ?_
  refine JL.assign .none rfl ?_
  refine JL.assign .none rfl ?_
  refine JL.done hQ ?_
  refine JQ.go ?_
  refine JC.ret ?_
  refine JQ.ret_then ?_
  obtain rfl := Option.some.inj hF
  exact JQ.outS rfl (.tmp (.tmp .nil)) rfl
 ·refine JC.cond_f (b := (y2.2.2 != 0)) rfl hc5 ?_
  refine JC.skip ?_
  refine JQ.go ?_
  refine JC.seq ?_
  refine JC.region (by rfl) ?_
  intro hQ
  refine JL.assign .none rfl ?_
  refine JL.done hQ ?_
  refine JQ.go ?_
  refine JC.seq ?_
  refine JC.seq ?_
  refine JC.region (by rfl) ?_
  intro hQ
  refine JL.move .none rfl ?_
  obtain ⟨u11, hu11, hF⟩ := bind_some hF
  obtain ⟨mb12, es13, ck14, hv15, hH16, hm17⟩ := MD.get hy2b_0 (neM_some hu11)
  refine JL.rangeM mp_92 hv15 (.data hH16) hm17 .none rfl ?_
  intro r6 sn7 seen8 cz9 hI10
  refine JL.done hQ ?_
  refine JQ.go ?_
  obtain ⟨r70, hlr70, hKr70⟩ := bind_some hF
  refine JC.join (fun (sum_68 : Int) H69 f bs gs => f 7 = .int .i64 sum_68 ∧ bs = [] ∧ gs = [] ∧ HSub H3 H69 ∧ sum_68 = r70) ?_ ?_
  ·skip
   obtain ⟨rs102, hper103, hl104⟩ := bind_some hlr70
   refine JC.block ?_
   refine JC.mask [true, false] [] ?_
   refine JC.mapLoop (srt_nodup hI10.srt) hper103 (fun (dd : Mp) (sum_100 : Int) H101 f bs gs => ∃ (sn_r6 : Nat) (se_r6 : Array Nat) (cz_r6 : Nat), f 7 = .int .i64 sum_100 ∧ f 20 = .pointer (some ⟨r6, 0, none⟩) ∧ bs = [(r6, .mapIter (some mb12) sn_r6 se_r6 cz_r6)] ∧ gs = [] ∧ IR 6 ekA y2.2.1 y2.2.1 es13 ck14 sn_r6 se_r6 cz_r6 dd ∧ HSub H3 H101) ⟨sn7, seen8, cz9, rfl, rfl, rfl, rfl, hI10, (HSub.refl _)⟩ ?_
   rintro dd sum_100 H101 f bs gs ⟨sn_r6, se_r6, cz_r6, hf7, hf20, rfl, rfl, hI_r6, hs101⟩ hend105 hgo106
   refine (JC.norm (i := 7) hf7 (JC.norm (i := 20) hf20 ?_))
   refine JC.seq ?_
   refine JC.region (by rfl) ?_
   intro hQ
   refine JL.nextM 0 kt_104 rfl rfl (.data (hs101.le _ _ hH16)) hm17 hI_r6 .none rfl ?_ ?_
   ·intro hp107
    refine JL.extract rfl rfl .none rfl ?_
    refine JL.done hQ ?_
    refine JQ.go ?_
    refine JC.seq ?_
    refine JC.cond_f (b := false) rfl rfl ?_
    refine JC.exit ?_
    refine JQ.exit_then ?_
    refine JQ.exit_then ?_
    refine JQ.exit_block ?_
    have er119 := hend105 hp107
    subst er119
    obtain rfl := Option.some.inj hl104
    refine JQ.mask [false] [] ?_
    exact JQ.join sum_100 ⟨rfl, rfl, rfl, hs101, rfl⟩
   ·rintro ⟨kl108, v109⟩ seen110 cz111 hx112 hxm113 hxn114 hI115 hE116
    have kok120 := (hm17.okk _ hxm113)
    dsimp only at kok120
    obtain ⟨sp118, hst117⟩ := hgo106 (kl108, v109) hx112 hxn114
    have hF := hst117
    rw [F_counts_Many_s1] at hF
    refine JL.extract rfl rfl .none rfl ?_
    refine JL.done hQ ?_
    refine JQ.go ?_
    refine JC.seq ?_
    refine JC.cond_t (b := true) rfl rfl ?_
    refine JC.skip ?_
    refine JQ.go ?_
    refine JC.block ?_
    refine JC.seq ?_
    refine JC.region (by rfl) ?_
    intro hQ
    refine JL.entryIt (y := (kl108, v109)) 0 rfl rfl (.data (hs101.le _ _ hH16)) hm17 hE116 .none rfl ?_
    refine JL.extract rfl rfl .none rfl ?_
    refine JL.assign .none rfl ?_
    refine JL.done hQ ?_
    refine JQ.go ?_
    refine JC.region (by rfl) ?_
    intro hQ
    refine JL.move .none rfl ?_
    refine JL.move .none rfl ?_
    refine JL.bin rfl rfl rfl .none rfl ?_
    refine JL.assign .none rfl ?_
    refine JL.done hQ ?_
    refine JQ.normal_block ?_
    obtain rfl := Option.some.inj hF
    exact JQ.mnext hx112 hxn114 hst117 ⟨sn_r6, seen110, cz111, rfl, rfl, rfl, rfl, hI115, hs101⟩
  ·rintro sum_68 H69 f bs gs ⟨hf7, rfl, rfl, hs69, rfl⟩
   have hF := hKr70
   try dsimp only at hF
   refine (JQ.norm (i := 7) hf7 ?_)
   refine JQ.go ?_
   refine JC.seq ?_
   refine JC.region (by rfl) ?_
   intro hQ
   refine JL.move .none rfl ?_
   refine JL.assign .none rfl ?_
   refine JL.assign .none rfl ?_
   refine JL.done hQ ?_
   refine JQ.go ?_
   refine JC.ret ?_
   obtain rfl := Option.some.inj hF
   exact JQ.outS rfl (.tmp (.tmp .nil)) rfl
-- 109 ferrule/gusts.ask$1
def F_gusts_ask_1 (n : Nat) (g : Gust) (c_0 : Canopy) : Option Bool :=
 (F_gusts_within n g.Force 0 99).bind fun y2 => (if (!y2) = true then (some true) else ((F_gusts_within n g.At 0 (w64 ((c_0.Ribs.length : Int) - 1))).bind fun y7 => some (!y7)) : Option Bool).bind fun p4 => some p4
set_option maxRecDepth 100000 in
set_option maxHeartbeats 40000000 in
theorem c_gusts_ask_1 (n : Nat) (H : Hp) (g : Gust) (c_0 : Canopy) (c_0_v0 : Value) (hc_0_0 : SL H 7 R_Section c_0_v0 c_0.Frame.Sections) (c_0_v7 : Value) (hc_0_7 : SL H 2 R_Span c_0_v7 c_0.Ribs) (c_0_v8 : Value) (hc_0_8 : SL H 1 RInt c_0_v8 c_0.Shares) (c_0_b : Nat) (c_0_c : Cells H c_0_b 0 [c_0_v0, .int .i64 c_0.Frame.Low, .int .i64 c_0.Frame.High, .int .i64 c_0.Frame.Ease.Num, .int .i64 c_0.Frame.Ease.Den, .int .i64 c_0.Frame.Rod, .int .i64 c_0.Frame.Case, c_0_v7, c_0_v8]) (y : Bool) (hF : F_gusts_ask_1 n g c_0 = some y) : SC Tryz.prog 109 [.agg [.int .i64 g.Force, .int .i64 g.At].toArray, .pointer (some ⟨c_0_b, 0, none⟩)] (.bool y) H := by
 rw [F_gusts_ask_1] at hF
 refine SC.of (N := 18) Tryz.func109 rfl rfl rfl fun w => ?_
 refine JC.seq ?_
 refine JC.region (by rfl) ?_
 intro hQ
 refine JL.box (cs := [.int .i64 g.Force, .int .i64 g.At]) rfl .none rfl ?_
 intro b1
 refine JL.assign .none rfl ?_
 refine JL.done hQ ?_
 refine JQ.go ?_
 refine JC.seq ?_
 refine JC.region (by rfl) ?_
 intro hQ
 refine JL.fieldAddr fo_64_0 rfl .none rfl ?_
 refine JL.loadOwn 0 az_3 rfl rfl rfl .none rfl ?_
 obtain ⟨y2, hy2, hF⟩ := bind_some hF
 refine JL.callS (c_gusts_within n H g.Force 0 99 y2 hy2) rfl en_85 .none rfl ?_
 refine JL.not rfl .none rfl ?_
 refine JL.move .none rfl ?_
 obtain ⟨p4, hp4, hF⟩ := bind_some hF
 refine JL.cut 9 (fun f => f 17 = .bool p4) ?_ ?_
 ·intro hJ5
  rcases ite_some hp4 with ⟨hc6, hF⟩ | ⟨hc6, hF⟩
  ·skip
   refine JL.skip (.bool rfl rfl rfl hc6) rfl ?_
   refine JL.skip (.bool rfl rfl rfl hc6) rfl ?_
   refine JL.skip (.bool rfl rfl rfl hc6) rfl ?_
   refine JL.skip (.bool rfl rfl rfl hc6) rfl ?_
   refine JL.skip (.bool rfl rfl rfl hc6) rfl ?_
   refine JL.skip (.bool rfl rfl rfl hc6) rfl ?_
   refine JL.skip (.bool rfl rfl rfl hc6) rfl ?_
   refine JL.skip (.bool rfl rfl rfl hc6) rfl ?_
   refine JL.pick_t (b := (!y2)) rfl hc6 .none rfl ?_
   obtain rfl := Option.some.inj hF
   exact hJ5 _ (rfl)
  ·skip
   refine JL.fieldAddr fo_64_1 rfl (.some rfl rfl rfl hc6) rfl ?_
   refine JL.loadOwn 0 az_3 rfl rfl rfl (.some rfl rfl rfl hc6) rfl ?_
   refine JL.fieldAddr fo_30_1 rfl (.some rfl rfl rfl hc6) rfl ?_
   refine JL.loadH 7 az_27 rfl c_0_c rfl (.some rfl rfl rfl hc6) rfl ?_
   refine JL.lenSL (R := R_Span) ul_27 hc_0_7 (.some rfl rfl rfl hc6) rfl ?_
   refine JL.bin rfl rfl rfl (.some rfl rfl rfl hc6) rfl ?_
   obtain ⟨y7, hy7, hF⟩ := bind_some hF
   refine JL.callS (c_gusts_within n H g.At 0 (w64 ((c_0.Ribs.length : Int) - 1)) y7 hy7) rfl en_85 (.some rfl rfl rfl hc6) rfl ?_
   refine JL.not rfl (.some rfl rfl rfl hc6) rfl ?_
   refine JL.pick_f (b := (!y2)) rfl hc6 .none rfl ?_
   obtain rfl := Option.some.inj hF
   exact hJ5 _ (rfl)
 ·rintro f hf17
  refine (JL.norm (i := 17) hf17 ?_)
  refine JL.assign .none rfl ?_
  refine JL.done hQ ?_
  refine JQ.go ?_
  refine JC.ret ?_
  obtain rfl := Option.some.inj hF
  exact JQ.outS rfl (.tmp .nil) rfl
-- 117 slices.IndexFunc[[]ferrule/api.Gust,ferrule/api.Gust]
def F_slices_IndexFunc___api_Gust_api_Gust__s1 (n : Nat) (s : List Gust) (f_ : Gust → Option Bool) : Int → Option (Int ⊕ (Int ⊕ Unit))
 | x_55 => if decide (x_55 < (s.length : Int)) = true then ((geti s x_55).bind fun y60 => (f_ y60).bind fun y65 => if y65 = true then (some (Sum.inr (Sum.inl x_55))) else (some (Sum.inl (w64 (x_55 + 1))))) else (some (Sum.inr (Sum.inr ())))
def F_slices_IndexFunc___api_Gust_api_Gust_ (n : Nat) (s : List Gust) (f_ : Gust → Option Bool) : Option Int :=
 (loopO n (F_slices_IndexFunc___api_Gust_api_Gust__s1 n s f_) 0).bind fun r34 => match r34 with | .inl o => some o | .inr _ => some (-1)
set_option maxRecDepth 100000 in
set_option maxHeartbeats 40000000 in
theorem c_slices_IndexFunc___api_Gust_api_Gust_ (n : Nat) (H : Hp) (s : List Gust) (s_v0 : Value) (hs_0 : SL H 2 R_Gust s_v0 s) (f_ : Gust → Option Bool) (f__k : Nat) (f__c : List Value) (f__e : Ent Tryz.prog f__k) (f__h : ∀ H', HSub H H' → ∀ (a0_ : Gust) (y : Bool), f_ a0_ = some y → SC Tryz.prog f__k ([.agg [.int .i64 a0_.Force, .int .i64 a0_.At].toArray] ++ f__c) (.bool y) H') (y : Int) (hF : F_slices_IndexFunc___api_Gust_api_Gust_ n s f_ = some y) : SC Tryz.prog 117 [s_v0, .func (.func f__k) #[] f__c.toArray] (.int .i64 y) H := by
 rw [F_slices_IndexFunc___api_Gust_api_Gust_] at hF
 refine SC.of (N := 19) Tryz.func117 rfl rfl rfl fun w => ?_
 refine JC.seq ?_
 refine JC.region (by rfl) ?_
 intro hQ
 refine JL.assign .none rfl ?_
 refine JL.done hQ ?_
 refine JQ.go ?_
 refine JC.seq ?_
 refine JC.seq ?_
 refine JC.region (by rfl) ?_
 intro hQ
 refine JL.move .none rfl ?_
 refine JL.lenSL (R := R_Gust) ul_65 hs_0 .none rfl ?_
 refine JL.move .none rfl ?_
 refine JL.done hQ ?_
 refine JQ.go ?_
 obtain ⟨r34, hlr34, hKr34⟩ := bind_some hF
 refine JC.join (fun (_ : Unit) H33 f bs gs => bs = [] ∧ gs = [] ∧ HSub H H33 ∧ Sum.inr () = r34) ?_ ?_
 ·skip
  refine JC.block ?_
  refine JC.loop hlr34 (fun (x_55 : Int) H56 f bs gs => f 0 = s_v0 ∧ f 1 = .func (.func f__k) #[] f__c.toArray ∧ f 7 = .int .i64 (s.length : Int) ∧ f 8 = .int .i64 x_55 ∧ bs = [] ∧ gs = [] ∧ HSub H H56) ⟨rfl, rfl, rfl, rfl, rfl, rfl, (HSub.refl _)⟩ ?_
  rintro x_55 x58 H56 f bs gs ⟨hf0, hf1, hf7, hf8, rfl, rfl, hs56⟩ hF hr57
  rw [F_slices_IndexFunc___api_Gust_api_Gust__s1] at hF
  refine (JC.norm (i := 0) hf0 (JC.norm (i := 1) hf1 (JC.norm (i := 7) hf7 (JC.norm (i := 8) hf8 ?_))))
  refine JC.seq ?_
  refine JC.region (by rfl) ?_
  intro hQ
  refine JL.bin rfl rfl rfl .none rfl ?_
  refine JL.done hQ ?_
  refine JQ.go ?_
  refine JC.seq ?_
  rcases ite_some hF with ⟨hc59, hF⟩ | ⟨hc59, hF⟩
  ·refine JC.cond_t (b := decide (x_55 < (s.length : Int))) rfl hc59 ?_
   refine JC.skip ?_
   refine JQ.go ?_
   refine JC.seq ?_
   refine JC.block ?_
   refine JC.seq ?_
   refine JC.region (by rfl) ?_
   intro hQ
   refine JL.move .none rfl ?_
   refine JL.assign .none rfl ?_
   refine JL.done hQ ?_
   refine JQ.go ?_
   refine JC.seq ?_
   refine JC.region (by rfl) ?_
   intro hQ
   refine JL.move .none rfl ?_
   refine JL.move .none rfl ?_
   refine JL.move .none rfl ?_
   obtain ⟨y60, hy60, hF⟩ := bind_some hF
   refine JL.indexSL (R := R_Gust) sl_65 (SL.mono R_Gust_mono hs56 hs_0) rfl hy60 .none rfl ?_
   rintro b61 o62 cs63 hc64 - rfl
   refine JL.loadH 0 az_64 rfl hc64 rfl .none rfl ?_
   obtain ⟨y65, hy65, hF⟩ := bind_some hF
   refine JL.callV rfl (f__h H56 hs56 y60 y65 hy65) rfl f__e .none rfl ?_
   refine JL.done hQ ?_
   refine JQ.go ?_
   rcases ite_some hF with ⟨hc66, hF⟩ | ⟨hc66, hF⟩
   ·refine JC.cond_t (b := y65) rfl hc66 ?_
    refine JC.seq ?_
    refine JC.region (by rfl) ?_
    intro hQ
    refine JL.move .none rfl ?_
    refine JL.assign .none rfl ?_
    refine JL.done hQ ?_
    refine JQ.go ?_
    refine JC.fresh (fun f => f 4 = .int .i64 x_55) rfl ?_
    rintro f hf4
    refine (JC.norm (i := 4) hf4 ?_)
    refine JC.ret ?_
    refine JQ.ret_block ?_
    refine JQ.ret_then ?_
    refine JQ.ret_then ?_
    refine JQ.ret_block ?_
    refine JQ.ret_join ?_
    refine JQ.ret_then ?_
    obtain rfl := Option.some.inj hF
    have ehr57 := hr57 _ rfl
    subst ehr57
    have hF := hKr34
    try dsimp only at hF
    obtain rfl := Option.some.inj hF
    exact JQ.outS rfl (.tmp .nil) rfl
   ·refine JC.cond_f (b := y65) rfl hc66 ?_
    refine JC.skip ?_
    refine JQ.normal_block ?_
    refine JQ.go ?_
    refine JC.region (by rfl) ?_
    intro hQ
    refine JL.bin rfl rfl rfl .none rfl ?_
    refine JL.move .none rfl ?_
    refine JL.done hQ ?_
    obtain rfl := Option.some.inj hF
    exact JQ.next rfl ⟨rfl, rfl, rfl, rfl, rfl, rfl, hs56⟩
  ·refine JC.cond_f (b := decide (x_55 < (s.length : Int))) rfl hc59 ?_
   refine JC.exit ?_
   refine JQ.exit_then ?_
   refine JQ.exit_then ?_
   refine JQ.exit_block ?_
   obtain rfl := Option.some.inj hF
   have ehr57 := hr57 _ rfl
   subst ehr57
   exact JQ.join () ⟨rfl, rfl, hs56, rfl⟩
 ·rintro _ H33 f bs gs ⟨rfl, rfl, hs33, rfl⟩
  have hF := hKr34
  try dsimp only at hF
  refine JQ.go ?_
  refine JC.seq ?_
  refine JC.region (by rfl) ?_
  intro hQ
  refine JL.assign .none rfl ?_
  refine JL.done hQ ?_
  refine JQ.go ?_
  refine JC.ret ?_
  obtain rfl := Option.some.inj hF
  exact JQ.outS rfl (.tmp .nil) rfl
-- 110 slices.ContainsFunc[[]ferrule/api.Gust,ferrule/api.Gust]
def F_slices_ContainsFunc___api_Gust_api_Gust_ (n : Nat) (s : List Gust) (f_ : Gust → Option Bool) : Option Bool :=
 (F_slices_IndexFunc___api_Gust_api_Gust_ n s f_).bind fun y1 => some (decide (0 ≤ y1))
set_option maxRecDepth 100000 in
set_option maxHeartbeats 40000000 in
theorem c_slices_ContainsFunc___api_Gust_api_Gust_ (n : Nat) (H : Hp) (s : List Gust) (s_v0 : Value) (hs_0 : SL H 2 R_Gust s_v0 s) (f_ : Gust → Option Bool) (f__k : Nat) (f__c : List Value) (f__e : Ent Tryz.prog f__k) (f__h : ∀ H', HSub H H' → ∀ (a0_ : Gust) (y : Bool), f_ a0_ = some y → SC Tryz.prog f__k ([.agg [.int .i64 a0_.Force, .int .i64 a0_.At].toArray] ++ f__c) (.bool y) H') (y : Bool) (hF : F_slices_ContainsFunc___api_Gust_api_Gust_ n s f_ = some y) : SC Tryz.prog 110 [s_v0, .func (.func f__k) #[] f__c.toArray] (.bool y) H := by
 rw [F_slices_ContainsFunc___api_Gust_api_Gust_] at hF
 refine SC.of (N := 9) Tryz.func110 rfl rfl rfl fun w => ?_
 refine JC.seq ?_
 refine JC.region (by rfl) ?_
 intro hQ
 refine JL.assign .none rfl ?_
 refine JL.done hQ ?_
 refine JQ.go ?_
 refine JC.seq ?_
 refine JC.region (by rfl) ?_
 intro hQ
 refine JL.move .none rfl ?_
 refine JL.move .none rfl ?_
 obtain ⟨y1, hy1, hF⟩ := bind_some hF
 refine JL.callS (c_slices_IndexFunc___api_Gust_api_Gust_ n H s s_v0 hs_0 f_ f__k f__c f__e (fun H' hs' => f__h H' hs') y1 hy1) rfl en_117 .none rfl ?_
 refine JL.bin rfl rfl rfl .none rfl ?_
 refine JL.assign .none rfl ?_
 refine JL.done hQ ?_
 refine JQ.go ?_
 refine JC.ret ?_
 obtain rfl := Option.some.inj hF
 exact JQ.outS rfl (.tmp .nil) rfl
end Go.Proofs.YtcipdblhopffbaaGreat
end
section
namespace Go.Proofs.YtcipdblhopffbaaGreat
open Go Go.RowKit Go.Dec
set_option linter.unusedVariables false
-- 95 ferrule/gusts.ask
def F_gusts_ask (n : Nat) (d : Canopy) (class_ : List Gust) : Option Int :=
 (F_gusts_Check n d).bind fun y2 => if (y2 != 0) = true then (some y2) else ((if decide (20 < (class_.length : Int)) = true then (some true) else ((F_slices_ContainsFunc___api_Gust_api_Gust_ n class_ (fun a0_ => F_gusts_ask_1 n a0_ d)).bind fun y13 => some y13) : Option Bool).bind fun p7 => if p7 = true then (some 1) else (some 0))
set_option maxRecDepth 100000 in
set_option maxHeartbeats 40000000 in
theorem c_gusts_ask (n : Nat) (H : Hp) (d : Canopy) (d_v0 : Value) (hd_0 : SL H 7 R_Section d_v0 d.Frame.Sections) (d_v7 : Value) (hd_7 : SL H 2 R_Span d_v7 d.Ribs) (d_v8 : Value) (hd_8 : SL H 1 RInt d_v8 d.Shares) (class_ : List Gust) (class__v0 : Value) (hclass__0 : SL H 2 R_Gust class__v0 class_) (y : Int) (hF : F_gusts_ask n d class_ = some y) : SC Tryz.prog 95 [.agg [d_v0, .int .i64 d.Frame.Low, .int .i64 d.Frame.High, .int .i64 d.Frame.Ease.Num, .int .i64 d.Frame.Ease.Den, .int .i64 d.Frame.Rod, .int .i64 d.Frame.Case, d_v7, d_v8].toArray, class__v0] (.int .i64 y) H := by
 rw [F_gusts_ask] at hF
 refine SC.of (N := 21) Tryz.func95 rfl rfl rfl fun w => ?_
 refine JC.seq ?_
 refine JC.region (by rfl) ?_
 intro hQ
 refine JL.box (cs := [d_v0, .int .i64 d.Frame.Low, .int .i64 d.Frame.High, .int .i64 d.Frame.Ease.Num, .int .i64 d.Frame.Ease.Den, .int .i64 d.Frame.Rod, .int .i64 d.Frame.Case, d_v7, d_v8]) rfl .none rfl ?_
 intro b1
 refine JL.assign .none rfl ?_
 refine JL.done hQ ?_
 refine JQ.go ?_
 refine JC.seq ?_
 refine JC.seq ?_
 refine JC.region (by rfl) ?_
 intro hQ
 refine JL.loadOwn 0 az_30 rfl rfl rfl .none rfl ?_
 obtain ⟨y2, hy2, hF⟩ := bind_some hF
 refine JL.callS (c_gusts_Check n H d d_v0 hd_0 d_v7 hd_7 d_v8 hd_8 y2 hy2) rfl en_62 .none rfl ?_
 refine JL.assign .none rfl ?_
 refine JL.done hQ ?_
 refine JQ.go ?_
 refine JC.seq ?_
 refine JC.region (by rfl) ?_
 intro hQ
 refine JL.move .none rfl ?_
 refine JL.bin rfl rfl rfl .none rfl ?_
 refine JL.done hQ ?_
 refine JQ.go ?_
 rcases ite_some hF with ⟨hc3, hF⟩ | ⟨hc3, hF⟩
 ·refine JC.cond_t (b := (y2 != 0)) rfl hc3 ?_
  refine JC.seq ?_
  refine JC.region (by rfl) ?_
  intro hQ
  refine JL.move .none rfl ?_
  refine JL.assign .none rfl ?_
  refine JL.done hQ ?_
  refine JQ.go ?_
  refine JC.ret ?_
  refine JQ.ret_then ?_
  obtain rfl := Option.some.inj hF
  exact JQ.outS rfl (.tmp .nil) rfl
 ·refine JC.cond_f (b := (y2 != 0)) rfl hc3 ?_
  refine JC.skip ?_
  refine JQ.go ?_
  refine JC.seq ?_
  refine JC.region (by rfl) ?_
  intro hQ
  refine JL.makeFunc .none rfl ?_
  refine JL.assign .none rfl ?_
  refine JL.done hQ ?_
  refine JQ.go ?_
  refine JC.seq ?_
  refine JC.seq ?_
  refine JC.region (by rfl) ?_
  intro hQ
  refine JL.move .none rfl ?_
  refine JL.lenSL (R := R_Gust) ul_65 hclass__0 .none rfl ?_
  refine JL.bin rfl rfl rfl .none rfl ?_
  refine JL.move .none rfl ?_
  obtain ⟨p7, hp7, hF⟩ := bind_some hF
  refine JL.cutW 4 (fun H8 f bs gs => f 20 = .bool p7 ∧ bs = [] ∧ gs = [] ∧ HSub H H8) ?_ ?_
  ·intro hJ9
   rcases ite_some hp7 with ⟨hc10, hF⟩ | ⟨hc10, hF⟩
   ·skip
    refine JL.skip (.bool rfl rfl rfl hc10) rfl ?_
    refine JL.skip (.bool rfl rfl rfl hc10) rfl ?_
    refine JL.skip (.bool rfl rfl rfl hc10) rfl ?_
    refine JL.pick_t (b := decide (20 < (class_.length : Int))) rfl hc10 .none rfl ?_
    obtain rfl := Option.some.inj hF
    refine JL.mask [false] [] ?_
    exact hJ9 _ _ _ _ ⟨rfl, rfl, rfl, (HSub.refl _)⟩
   ·skip
    refine JL.move (.some rfl rfl rfl hc10) rfl ?_
    refine JL.move (.some rfl rfl rfl hc10) rfl ?_
    refine JL.freezeC 0 (l := [d_v0, .int .i64 d.Frame.Low, .int .i64 d.Frame.High, .int .i64 d.Frame.Ease.Num, .int .i64 d.Frame.Ease.Den, .int .i64 d.Frame.Rod, .int .i64 d.Frame.Case, d_v7, d_v8]) rfl ?_
    intro H11 hs11 hc12
    obtain ⟨y13, hy13, hF⟩ := bind_some hF
    refine JL.callS (c_slices_ContainsFunc___api_Gust_api_Gust_ n H11 class_ class__v0 (SL.mono R_Gust_mono hs11 hclass__0) (fun a0_ => F_gusts_ask_1 n a0_ d) 109 [.pointer (some ⟨b1, 0, none⟩)] en_109 (fun H' hs' a0_ y' hy' => c_gusts_ask_1 n H' a0_ d d_v0 (SL.mono R_Section_mono hs' (SL.mono R_Section_mono hs11 hd_0)) d_v7 (SL.mono R_Span_mono hs' (SL.mono R_Span_mono hs11 hd_7)) d_v8 (SL.mono RInt.mono hs' (SL.mono RInt.mono hs11 hd_8)) b1 (Cells.mono hs' hc12) y' hy') y13 hy13) rfl en_110 (.some rfl rfl rfl hc10) rfl ?_
    refine JL.pick_f (b := decide (20 < (class_.length : Int))) rfl hc10 .none rfl ?_
    obtain rfl := Option.some.inj hF
    refine JL.mask [] [] ?_
    exact hJ9 _ _ _ _ ⟨rfl, rfl, rfl, hs11⟩
  ·rintro H8 f bs gs ⟨hf20, rfl, rfl, hs8⟩
   refine (JL.norm (i := 20) hf20 ?_)
   refine JL.done hQ ?_
   refine JQ.go ?_
   rcases ite_some hF with ⟨hc14, hF⟩ | ⟨hc14, hF⟩
   ·refine JC.cond_t (b := p7) rfl hc14 ?_
    refine JC.seq ?_
    refine JC.region (by rfl) ?_
    intro hQ
    refine JL.assign .none rfl ?_
    refine JL.done hQ ?_
    refine JQ.go ?_
    refine JC.ret ?_
    refine JQ.ret_then ?_
    obtain rfl := Option.some.inj hF
    exact JQ.outS rfl (.tmp .nil) rfl
   ·refine JC.cond_f (b := p7) rfl hc14 ?_
    refine JC.skip ?_
    refine JQ.go ?_
    refine JC.seq ?_
    refine JC.region (by rfl) ?_
    intro hQ
    refine JL.assign .none rfl ?_
    refine JL.done hQ ?_
    refine JQ.go ?_
    refine JC.ret ?_
    obtain rfl := Option.some.inj hF
    exact JQ.outS rfl (.tmp .nil) rfl
-- 123 ferrule/frames.ask
def F_frames_ask (n : Nat) (f_ : Frame) (section_ : Int) (r : Int) : Option Int :=
 (F_frames_Check n f_).bind fun y2 => if (y2 != 0) = true then (some y2) else ((F_frames_within n section_ 0 (w64 ((f_.Sections.length : Int) - 1))).bind fun y4 => (if (!y4) = true then (some true) else ((F_frames_within n r f_.Low f_.High).bind fun y9 => some (!y9)) : Option Bool).bind fun p6 => if p6 = true then (some 1) else (some 0))
set_option maxRecDepth 100000 in
set_option maxHeartbeats 40000000 in
theorem c_frames_ask (n : Nat) (H : Hp) (f_ : Frame) (f__v0 : Value) (hf__0 : SL H 7 R_Section f__v0 f_.Sections) (section_ : Int) (r : Int) (y : Int) (hF : F_frames_ask n f_ section_ r = some y) : SC Tryz.prog 123 [.agg [f__v0, .int .i64 f_.Low, .int .i64 f_.High, .int .i64 f_.Ease.Num, .int .i64 f_.Ease.Den, .int .i64 f_.Rod, .int .i64 f_.Case].toArray, .int .i64 section_, .int .i64 r] (.int .i64 y) H := by
 rw [F_frames_ask] at hF
 refine SC.of (N := 29) Tryz.func123 rfl rfl rfl fun w => ?_
 refine JC.seq ?_
 refine JC.region (by rfl) ?_
 intro hQ
 refine JL.box (cs := [f__v0, .int .i64 f_.Low, .int .i64 f_.High, .int .i64 f_.Ease.Num, .int .i64 f_.Ease.Den, .int .i64 f_.Rod, .int .i64 f_.Case]) rfl .none rfl ?_
 intro b1
 refine JL.assign .none rfl ?_
 refine JL.done hQ ?_
 refine JQ.go ?_
 refine JC.seq ?_
 refine JC.seq ?_
 refine JC.region (by rfl) ?_
 intro hQ
 refine JL.loadOwn 0 az_26 rfl rfl rfl .none rfl ?_
 obtain ⟨y2, hy2, hF⟩ := bind_some hF
 refine JL.callS (c_frames_Check n H f_ f__v0 hf__0 y2 hy2) rfl en_87 .none rfl ?_
 refine JL.assign .none rfl ?_
 refine JL.done hQ ?_
 refine JQ.go ?_
 refine JC.seq ?_
 refine JC.region (by rfl) ?_
 intro hQ
 refine JL.move .none rfl ?_
 refine JL.bin rfl rfl rfl .none rfl ?_
 refine JL.done hQ ?_
 refine JQ.go ?_
 rcases ite_some hF with ⟨hc3, hF⟩ | ⟨hc3, hF⟩
 ·refine JC.cond_t (b := (y2 != 0)) rfl hc3 ?_
  refine JC.seq ?_
  refine JC.region (by rfl) ?_
  intro hQ
  refine JL.move .none rfl ?_
  refine JL.assign .none rfl ?_
  refine JL.done hQ ?_
  refine JQ.go ?_
  refine JC.ret ?_
  refine JQ.ret_then ?_
  obtain rfl := Option.some.inj hF
  exact JQ.outS rfl (.tmp .nil) rfl
 ·refine JC.cond_f (b := (y2 != 0)) rfl hc3 ?_
  refine JC.skip ?_
  refine JQ.go ?_
  refine JC.seq ?_
  refine JC.seq ?_
  refine JC.region (by rfl) ?_
  intro hQ
  refine JL.move .none rfl ?_
  refine JL.fieldAddr fo_26_0 rfl .none rfl ?_
  refine JL.loadOwn 0 az_22 rfl rfl rfl .none rfl ?_
  refine JL.lenSL (R := R_Section) ul_22 hf__0 .none rfl ?_
  refine JL.bin rfl rfl rfl .none rfl ?_
  obtain ⟨y4, hy4, hF⟩ := bind_some hF
  refine JL.callS (c_frames_within n H section_ 0 (w64 ((f_.Sections.length : Int) - 1)) y4 hy4) rfl en_102 .none rfl ?_
  refine JL.not rfl .none rfl ?_
  refine JL.move .none rfl ?_
  obtain ⟨p6, hp6, hF⟩ := bind_some hF
  refine JL.cut 8 (fun f => f 28 = .bool p6) ?_ ?_
  ·intro hJ7
   rcases ite_some hp6 with ⟨hc8, hF⟩ | ⟨hc8, hF⟩
   ·skip
    refine JL.skip (.bool rfl rfl rfl hc8) rfl ?_
    refine JL.skip (.bool rfl rfl rfl hc8) rfl ?_
    refine JL.skip (.bool rfl rfl rfl hc8) rfl ?_
    refine JL.skip (.bool rfl rfl rfl hc8) rfl ?_
    refine JL.skip (.bool rfl rfl rfl hc8) rfl ?_
    refine JL.skip (.bool rfl rfl rfl hc8) rfl ?_
    refine JL.skip (.bool rfl rfl rfl hc8) rfl ?_
    refine JL.pick_t (b := (!y4)) rfl hc8 .none rfl ?_
    obtain rfl := Option.some.inj hF
    exact hJ7 _ (rfl)
   ·skip
    refine JL.move (.some rfl rfl rfl hc8) rfl ?_
    refine JL.fieldAddr fo_26_1 rfl (.some rfl rfl rfl hc8) rfl ?_
    refine JL.loadOwn 0 az_3 rfl rfl rfl (.some rfl rfl rfl hc8) rfl ?_
    refine JL.fieldAddr fo_26_2 rfl (.some rfl rfl rfl hc8) rfl ?_
    refine JL.loadOwn 0 az_3 rfl rfl rfl (.some rfl rfl rfl hc8) rfl ?_
    obtain ⟨y9, hy9, hF⟩ := bind_some hF
    refine JL.callS (c_frames_within n H r f_.Low f_.High y9 hy9) rfl en_102 (.some rfl rfl rfl hc8) rfl ?_
    refine JL.not rfl (.some rfl rfl rfl hc8) rfl ?_
    refine JL.pick_f (b := (!y4)) rfl hc8 .none rfl ?_
    obtain rfl := Option.some.inj hF
    exact hJ7 _ (rfl)
  ·rintro f hf28
   refine (JL.norm (i := 28) hf28 ?_)
   refine JL.done hQ ?_
   refine JQ.go ?_
   rcases ite_some hF with ⟨hc10, hF⟩ | ⟨hc10, hF⟩
   ·refine JC.cond_t (b := p6) rfl hc10 ?_
    refine JC.seq ?_
    refine JC.region (by rfl) ?_
    intro hQ
    refine JL.assign .none rfl ?_
    refine JL.done hQ ?_
    refine JQ.go ?_
    refine JC.ret ?_
    refine JQ.ret_then ?_
    obtain rfl := Option.some.inj hF
    exact JQ.outS rfl (.tmp .nil) rfl
   ·refine JC.cond_f (b := p6) rfl hc10 ?_
    refine JC.skip ?_
    refine JQ.go ?_
    refine JC.seq ?_
    refine JC.region (by rfl) ?_
    intro hQ
    refine JL.assign .none rfl ?_
    refine JL.done hQ ?_
    refine JQ.go ?_
    refine JC.ret ?_
    obtain rfl := Option.some.inj hF
    exact JQ.outS rfl (.tmp .nil) rfl
-- 124 ferrule/frames.distance
def F_frames_distance_s1 (n : Nat) (y2 : List Section) : Int × Int → Option ((Int × Int) ⊕ Int)
 | (r_70, x_71) => if decide (x_71 < (y2.length : Int)) = true then ((geti y2 x_71).bind fun y76 => (nz y76.Gear.Den).bind fun _ => some (Sum.inl ((w64 (y76.Base + (w64 ((w64 (r_70 * y76.Gear.Num)).tdiv y76.Gear.Den)))), (w64 (x_71 + 1))))) else (some (Sum.inr r_70))
def F_frames_distance (n : Nat) (f_ : Frame) (section_ : Int) (r : Int) : Option Int :=
 (slc f_.Sections 1 (w64 (section_ + 1))).bind fun y2 => (loopO n (F_frames_distance_s1 n y2) (r, 0)).bind fun r_43 => some r_43
set_option maxRecDepth 100000 in
set_option maxHeartbeats 40000000 in
theorem c_frames_distance (n : Nat) (H : Hp) (f_ : Frame) (f__v0 : Value) (hf__0 : SL H 7 R_Section f__v0 f_.Sections) (section_ : Int) (r : Int) (y : Int) (hF : F_frames_distance n f_ section_ r = some y) : SC Tryz.prog 124 [.agg [f__v0, .int .i64 f_.Low, .int .i64 f_.High, .int .i64 f_.Ease.Num, .int .i64 f_.Ease.Den, .int .i64 f_.Rod, .int .i64 f_.Case].toArray, .int .i64 section_, .int .i64 r] (.int .i64 y) H := by
 rw [F_frames_distance] at hF
 refine SC.of (N := 33) Tryz.func124 rfl rfl rfl fun w => ?_
 refine JC.seq ?_
 refine JC.region (by rfl) ?_
 intro hQ
 refine JL.box (cs := [f__v0, .int .i64 f_.Low, .int .i64 f_.High, .int .i64 f_.Ease.Num, .int .i64 f_.Ease.Den, .int .i64 f_.Rod, .int .i64 f_.Case]) rfl .none rfl ?_
 intro b1
 refine JL.assign .none rfl ?_
 refine JL.done hQ ?_
 refine JQ.go ?_
 refine JC.seq ?_
 refine JC.seq ?_
 refine JC.region (by rfl) ?_
 intro hQ
 refine JL.fieldAddr fo_26_0 rfl .none rfl ?_
 refine JL.loadOwn 0 az_22 rfl rfl rfl .none rfl ?_
 refine JL.move .none rfl ?_
 refine JL.bin rfl rfl rfl .none rfl ?_
 obtain ⟨y2, hy2, hF⟩ := bind_some hF
 refine JL.sliceLoHi (R := R_Section) sl_22 hf__0 rfl rfl hy2 .none rfl ?_
 intro v3 hv4
 refine JL.lenSL (R := R_Section) ul_22 hv4 .none rfl ?_
 refine JL.move .none rfl ?_
 refine JL.done hQ ?_
 refine JQ.go ?_
 obtain ⟨r45, hlr45, hKr45⟩ := bind_some hF
 refine JC.join (fun (r_43 : Int) H44 f bs gs => f 2 = .int .i64 r_43 ∧ bs = [] ∧ gs = [] ∧ HSub H H44 ∧ r_43 = r45) ?_ ?_
 ·skip
  refine JC.block ?_
  refine JC.mask [false] [] ?_
  refine JC.loop hlr45 (fun (x : Int × Int) H72 f bs gs => match x with | (r_70, x_71) => f 2 = .int .i64 r_70 ∧ f 13 = v3 ∧ f 14 = .int .i64 (y2.length : Int) ∧ f 15 = .int .i64 x_71 ∧ bs = [] ∧ gs = [] ∧ HSub H H72) ⟨rfl, rfl, rfl, rfl, rfl, rfl, (HSub.refl _)⟩ ?_
  rintro ⟨r_70, x_71⟩ x74 H72 f bs gs ⟨hf2, hf13, hf14, hf15, rfl, rfl, hs72⟩ hF hr73
  rw [F_frames_distance_s1] at hF
  refine (JC.norm (i := 2) hf2 (JC.norm (i := 13) hf13 (JC.norm (i := 14) hf14 (JC.norm (i := 15) hf15 ?_))))
  refine JC.seq ?_
  refine JC.region (by rfl) ?_
  intro hQ
  refine JL.bin rfl rfl rfl .none rfl ?_
  refine JL.done hQ ?_
  refine JQ.go ?_
  refine JC.seq ?_
  rcases ite_some hF with ⟨hc75, hF⟩ | ⟨hc75, hF⟩
  ·refine JC.cond_t (b := decide (x_71 < (y2.length : Int))) rfl hc75 ?_
   refine JC.skip ?_
   refine JQ.go ?_
   refine JC.seq ?_
   refine JC.block ?_
   refine JC.seq ?_
   refine JC.region (by rfl) ?_
   intro hQ
   obtain ⟨y76, hy76, hF⟩ := bind_some hF
   refine JL.indexSL (R := R_Section) sl_22 (SL.mono R_Section_mono hs72 hv4) rfl hy76 .none rfl ?_
   rintro b77 o78 cs79 hc80 - rfl
   refine JL.loadH 0 az_124 rfl hc80 rfl .none rfl ?_
   refine JL.alloc ze_124 .none rfl ?_
   intro b81
   refine JL.storeOwn 0 (cs := [.int .i64 y76.Arm.Low, .int .i64 y76.Arm.High, .int .i64 y76.Stretch.Low, .int .i64 y76.Stretch.High, .int .i64 y76.Base, .int .i64 y76.Gear.Num, .int .i64 y76.Gear.Den]) az_124 rfl rfl rfl (one_cons rfl (one_cons rfl (one_cons rfl (one_cons rfl (one_cons rfl (one_cons rfl (one_cons rfl one_nil))))))) rfl rfl .none ?_
   refine JL.done hQ ?_
   refine JQ.go ?_
   refine JC.draw (by rfl) mo_ (by kernel_rfl) ?_
   intro hQ
   refine JL.fieldAddr fo_124_2 rfl .none rfl ?_
   refine JL.loadOwn 0 az_3 rfl rfl rfl .none rfl ?_
   refine JL.move .none rfl ?_
   refine JL.fieldAddr fo_124_3 rfl .none rfl ?_
   refine JL.fieldAddr fo_24_0 rfl .none rfl ?_
   refine JL.loadOwn 0 az_3 rfl rfl rfl .none rfl ?_
   refine JL.bin rfl rfl rfl .none rfl ?_
   refine JL.fieldAddr fo_124_3 rfl .none rfl ?_
   refine JL.fieldAddr fo_24_1 rfl .none rfl ?_
   refine JL.loadOwn 0 az_3 rfl rfl rfl .none rfl ?_
   obtain ⟨u83, hu83, hF⟩ := bind_some hF
   refine JL.div rfl rfl (nz_some hu83) rfl .none rfl ?_
   refine JL.bin rfl rfl rfl .none rfl ?_
   refine JL.assign .none rfl ?_
   refine JL.doneQ hQ ?_
   refine JQ.normal_block ?_
   refine JQ.go ?_
   refine JC.fresh (fun f => f 2 = .int .i64 (w64 (y76.Base + (w64 ((w64 (r_70 * y76.Gear.Num)).tdiv y76.Gear.Den)))) ∧ f 13 = v3 ∧ f 14 = .int .i64 (y2.length : Int) ∧ f 15 = .int .i64 x_71) ⟨rfl, rfl, rfl, rfl⟩ ?_
   rintro f ⟨hf2, hf13, hf14, hf15⟩
   refine (JC.norm (i := 2) hf2 (JC.norm (i := 13) hf13 (JC.norm (i := 14) hf14 (JC.norm (i := 15) hf15 ?_))))
   refine JC.region (by rfl) ?_
   intro hQ
   refine JL.bin rfl rfl rfl .none rfl ?_
   refine JL.move .none rfl ?_
   refine JL.done hQ ?_
   obtain rfl := Option.some.inj hF
   refine JQ.mask [false] [] ?_
   exact JQ.next rfl ⟨rfl, rfl, rfl, rfl, rfl, rfl, hs72⟩
  ·refine JC.cond_f (b := decide (x_71 < (y2.length : Int))) rfl hc75 ?_
   refine JC.exit ?_
   refine JQ.exit_then ?_
   refine JQ.exit_then ?_
   refine JQ.exit_block ?_
   obtain rfl := Option.some.inj hF
   have ehr73 := hr73 _ rfl
   subst ehr73
   exact JQ.join r_70 ⟨rfl, rfl, rfl, hs72, rfl⟩
 ·rintro r_43 H44 f bs gs ⟨hf2, rfl, rfl, hs44, rfl⟩
  have hF := hKr45
  try dsimp only at hF
  refine (JQ.norm (i := 2) hf2 ?_)
  refine JQ.go ?_
  refine JC.seq ?_
  refine JC.region (by rfl) ?_
  intro hQ
  refine JL.move .none rfl ?_
  refine JL.assign .none rfl ?_
  refine JL.done hQ ?_
  refine JQ.go ?_
  refine JC.ret ?_
  obtain rfl := Option.some.inj hF
  exact JQ.outS rfl (.tmp .nil) rfl
-- 126 (ferrule/frames.sides).cosine
def F_frames_sides_cosine (n : Nat) (x_ : frames_sides) (d : Int) : Option Frac :=
 some (Frac.mk (w64 ((w64 ((w64 (d * d)) + (w64 (x_.arm * x_.arm)))) - (w64 (x_.stretch * x_.stretch)))) (w64 ((w64 (2 * d)) * x_.arm)))
set_option maxRecDepth 100000 in
set_option maxHeartbeats 40000000 in
theorem c_frames_sides_cosine (n : Nat) (H : Hp) (x_ : frames_sides) (d : Int) (y : Frac) (hF : F_frames_sides_cosine n x_ d = some y) : SC Tryz.prog 126 [.agg [.int .i64 x_.arm, .int .i64 x_.stretch].toArray, .int .i64 d] (.agg [.int .i64 y.Num, .int .i64 y.Den].toArray) H := by
 rw [F_frames_sides_cosine] at hF
 refine SC.of (N := 26) Tryz.func126 rfl rfl rfl fun w => ?_
 refine JC.seq ?_
 refine JC.region (by rfl) ?_
 intro hQ
 refine JL.box (cs := [.int .i64 x_.arm, .int .i64 x_.stretch]) rfl .none rfl ?_
 intro b1
 refine JL.alloc ze_24 .none rfl ?_
 intro b2
 refine JL.done hQ ?_
 refine JQ.go ?_
 refine JC.seq ?_
 refine JC.region (by rfl) ?_
 intro hQ
 refine JL.move .none rfl ?_
 refine JL.move .none rfl ?_
 refine JL.bin rfl rfl rfl .none rfl ?_
 refine JL.fieldAddr fo_173_0 rfl .none rfl ?_
 refine JL.loadOwn 1 az_3 rfl rfl rfl .none rfl ?_
 refine JL.fieldAddr fo_173_0 rfl .none rfl ?_
 refine JL.loadOwn 1 az_3 rfl rfl rfl .none rfl ?_
 refine JL.bin rfl rfl rfl .none rfl ?_
 refine JL.bin rfl rfl rfl .none rfl ?_
 refine JL.fieldAddr fo_173_1 rfl .none rfl ?_
 refine JL.loadOwn 1 az_3 rfl rfl rfl .none rfl ?_
 refine JL.fieldAddr fo_173_1 rfl .none rfl ?_
 refine JL.loadOwn 1 az_3 rfl rfl rfl .none rfl ?_
 refine JL.bin rfl rfl rfl .none rfl ?_
 refine JL.bin rfl rfl rfl .none rfl ?_
 refine JL.move .none rfl ?_
 refine JL.bin rfl rfl rfl .none rfl ?_
 refine JL.fieldAddr fo_173_0 rfl .none rfl ?_
 refine JL.loadOwn 1 az_3 rfl rfl rfl .none rfl ?_
 refine JL.bin rfl rfl rfl .none rfl ?_
 refine JL.build (l := [.int .i64 (w64 ((w64 ((w64 (d * d)) + (w64 (x_.arm * x_.arm)))) - (w64 (x_.stretch * x_.stretch)))), .int .i64 (w64 ((w64 (2 * d)) * x_.arm))]) (by kernel_rfl) .none rfl ?_
 refine JL.storeOwn 0 (cs := [.int .i64 (w64 ((w64 ((w64 (d * d)) + (w64 (x_.arm * x_.arm)))) - (w64 (x_.stretch * x_.stretch)))), .int .i64 (w64 ((w64 (2 * d)) * x_.arm))]) az_24 rfl rfl rfl (one_cons rfl (one_cons rfl one_nil)) rfl rfl .none ?_
 refine JL.done hQ ?_
 refine JQ.go ?_
 refine JC.fresh (fun f => f 4 = .pointer (some ⟨b2, 0, none⟩)) rfl ?_
 rintro f hf4
 refine (JC.norm (i := 4) hf4 ?_)
 refine JC.ret ?_
 obtain rfl := Option.some.inj hF
 exact JQ.outS rfl (.cell 0 az_24 rfl rfl rfl .nil) rfl
-- 134 cmp.isNaN[int]
def F_cmp_isNaN_int_ (n : Nat) (x_ : Int) : Option Bool :=
 some (x_ != x_)
set_option maxRecDepth 100000 in
set_option maxHeartbeats 40000000 in
theorem c_cmp_isNaN_int_ (n : Nat) (H : Hp) (x_ : Int) (y : Bool) (hF : F_cmp_isNaN_int_ n x_ = some y) : SC Tryz.prog 134 [.int .i64 x_] (.bool y) H := by
 rw [F_cmp_isNaN_int_] at hF
 refine SC.of (N := 6) Tryz.func134 rfl rfl rfl fun w => ?_
 refine JC.seq ?_
 refine JC.region (by rfl) ?_
 intro hQ
 refine JL.assign .none rfl ?_
 refine JL.done hQ ?_
 refine JQ.go ?_
 refine JC.seq ?_
 refine JC.region (by rfl) ?_
 intro hQ
 refine JL.move .none rfl ?_
 refine JL.move .none rfl ?_
 refine JL.bin rfl rfl rfl .none rfl ?_
 refine JL.assign .none rfl ?_
 refine JL.done hQ ?_
 refine JQ.go ?_
 refine JC.ret ?_
 obtain rfl := Option.some.inj hF
 exact JQ.outS rfl (.tmp .nil) rfl
-- 132 cmp.Compare[int]
def F_cmp_Compare_int_ (n : Nat) (x_ : Int) (y_ : Int) : Option Int :=
 (F_cmp_isNaN_int_ n x_).bind fun y1 => (F_cmp_isNaN_int_ n y_).bind fun y2 => if y1 = true then (if y2 = true then (some 0) else (some (-1))) else (if y2 = true then (some 1) else (if decide (x_ < y_) = true then (some (-1)) else (if decide (y_ < x_) = true then (some 1) else (some 0))))
set_option maxRecDepth 100000 in
set_option maxHeartbeats 40000000 in
theorem c_cmp_Compare_int_ (n : Nat) (H : Hp) (x_ : Int) (y_ : Int) (y : Int) (hF : F_cmp_Compare_int_ n x_ y_ = some y) : SC Tryz.prog 132 [.int .i64 x_, .int .i64 y_] (.int .i64 y) H := by
 rw [F_cmp_Compare_int_] at hF
 refine SC.of (N := 20) Tryz.func132 rfl rfl rfl fun w => ?_
 refine JC.seq ?_
 refine JC.region (by rfl) ?_
 intro hQ
 refine JL.assign .none rfl ?_
 refine JL.done hQ ?_
 refine JQ.go ?_
 refine JC.seq ?_
 refine JC.region (by rfl) ?_
 intro hQ
 refine JL.move .none rfl ?_
 obtain ⟨y1, hy1, hF⟩ := bind_some hF
 refine JL.callS (c_cmp_isNaN_int_ n H x_ y1 hy1) rfl en_134 .none rfl ?_
 refine JL.assign .none rfl ?_
 refine JL.done hQ ?_
 refine JQ.go ?_
 refine JC.seq ?_
 refine JC.region (by rfl) ?_
 intro hQ
 refine JL.move .none rfl ?_
 obtain ⟨y2, hy2, hF⟩ := bind_some hF
 refine JL.callS (c_cmp_isNaN_int_ n H y_ y2 hy2) rfl en_134 .none rfl ?_
 refine JL.assign .none rfl ?_
 refine JL.done hQ ?_
 refine JQ.go ?_
 refine JC.seq ?_
 refine JC.seq ?_
 refine JC.region (by rfl) ?_
 intro hQ
 refine JL.move .none rfl ?_
 refine JL.done hQ ?_
 refine JQ.go ?_
 rcases ite_some hF with ⟨hc3, hF⟩ | ⟨hc3, hF⟩
 ·refine JC.cond_t (b := y1) rfl hc3 ?_
  refine JC.seq ?_
  refine JC.seq ?_
  refine JC.region (by rfl) ?_
  intro hQ
  refine JL.move .none rfl ?_
  refine JL.done hQ ?_
  refine JQ.go ?_
  rcases ite_some hF with ⟨hc4, hF⟩ | ⟨hc4, hF⟩
  ·refine JC.cond_t (b := y2) rfl hc4 ?_
   refine JC.seq ?_
   refine JC.region (by rfl) ?_
   intro hQ
   refine JL.assign .none rfl ?_
   refine JL.done hQ ?_
   refine JQ.go ?_
   refine JC.ret ?_
   refine JQ.ret_then ?_
   refine JQ.ret_then ?_
   obtain rfl := Option.some.inj hF
   exact JQ.outS rfl (.tmp .nil) rfl
  ·refine JC.cond_f (b := y2) rfl hc4 ?_
   refine JC.skip ?_
   refine JQ.go ?_
   refine JC.seq ?_
   refine JC.region (by rfl) ?_
   intro hQ
   refine JL.assign .none rfl ?_
   refine JL.done hQ ?_
   refine JQ.go ?_
   refine JC.ret ?_
   refine JQ.ret_then ?_
   obtain rfl := Option.some.inj hF
   exact JQ.outS rfl (.tmp .nil) rfl
 ·refine JC.cond_f (b := y1) rfl hc3 ?_
  refine JC.skip ?_
  refine JQ.go ?_
  refine JC.seq ?_
  refine JC.seq ?_
  refine JC.region (by rfl) ?_
  intro hQ
  refine JL.move .none rfl ?_
  refine JL.done hQ ?_
  refine JQ.go ?_
  rcases ite_some hF with ⟨hc5, hF⟩ | ⟨hc5, hF⟩
  ·refine JC.cond_t (b := y2) rfl hc5 ?_
   refine JC.seq ?_
   refine JC.region (by rfl) ?_
   intro hQ
   refine JL.assign .none rfl ?_
   refine JL.done hQ ?_
   refine JQ.go ?_
   refine JC.ret ?_
   refine JQ.ret_then ?_
   obtain rfl := Option.some.inj hF
   exact JQ.outS rfl (.tmp .nil) rfl
  ·refine JC.cond_f (b := y2) rfl hc5 ?_
   refine JC.skip ?_
   refine JQ.go ?_
   refine JC.seq ?_
   refine JC.seq ?_
   refine JC.region (by rfl) ?_
   intro hQ
   refine JL.move .none rfl ?_
   refine JL.move .none rfl ?_
   refine JL.bin rfl rfl rfl .none rfl ?_
   refine JL.done hQ ?_
   refine JQ.go ?_
   refine JC.fresh (fun f => f 0 = .int .i64 x_ ∧ f 1 = .int .i64 y_ ∧ f 4 = .int .i64 0 ∧ f 16 = .bool (decide (x_ < y_))) ⟨rfl, rfl, rfl, rfl⟩ ?_
   rintro f ⟨hf0, hf1, hf4, hf16⟩
   refine (JC.norm (i := 0) hf0 (JC.norm (i := 1) hf1 (JC.norm (i := 4) hf4 (JC.norm (i := 16) hf16 ?_))))
   rcases ite_some hF with ⟨hc6, hF⟩ | ⟨hc6, hF⟩
   ·refine JC.cond_t (b := decide (x_ < y_)) rfl hc6 ?_
    refine JC.seq ?_
    refine JC.region (by rfl) ?_
    intro hQ
    refine JL.assign .none rfl ?_
    refine JL.done hQ ?_
    refine JQ.go ?_
    refine JC.ret ?_
    refine JQ.ret_then ?_
    obtain rfl := Option.some.inj hF
    exact JQ.outS rfl (.tmp .nil) rfl
   ·refine JC.cond_f (b := decide (x_ < y_)) rfl hc6 ?_
    refine JC.skip ?_
    refine JQ.go ?_
    refine JC.seq ?_
    refine JC.seq ?_
    refine JC.region (by rfl) ?_
    intro hQ
    refine JL.move .none rfl ?_
    refine JL.move .none rfl ?_
    refine JL.bin rfl rfl rfl .none rfl ?_
    refine JL.done hQ ?_
    refine JQ.go ?_
    rcases ite_some hF with ⟨hc7, hF⟩ | ⟨hc7, hF⟩
    ·refine JC.cond_t (b := decide (y_ < x_)) rfl hc7 ?_
     refine JC.seq ?_
     refine JC.region (by rfl) ?_
     intro hQ
     refine JL.assign .none rfl ?_
     refine JL.done hQ ?_
     refine JQ.go ?_
     refine JC.ret ?_
     refine JQ.ret_then ?_
     obtain rfl := Option.some.inj hF
     exact JQ.outS rfl (.tmp .nil) rfl
    ·refine JC.cond_f (b := decide (y_ < x_)) rfl hc7 ?_
     refine JC.skip ?_
     refine JQ.go ?_
     refine JC.seq ?_
     refine JC.region (by rfl) ?_
     intro hQ
     refine JL.assign .none rfl ?_
     refine JL.done hQ ?_
     refine JQ.go ?_
     refine JC.ret ?_
     obtain rfl := Option.some.inj hF
     exact JQ.outS rfl (.tmp .nil) rfl
-- 127 ferrule/frames.compare
def F_frames_compare (n : Nat) (a : Frac) (b : Frac) : Option Int :=
 (F_cmp_Compare_int_ n (w64 (a.Num * b.Den)) (w64 (b.Num * a.Den))).bind fun y3 => some y3
set_option maxRecDepth 100000 in
set_option maxHeartbeats 40000000 in
theorem c_frames_compare (n : Nat) (H : Hp) (a : Frac) (b : Frac) (y : Int) (hF : F_frames_compare n a b = some y) : SC Tryz.prog 127 [.agg [.int .i64 a.Num, .int .i64 a.Den].toArray, .agg [.int .i64 b.Num, .int .i64 b.Den].toArray] (.int .i64 y) H := by
 rw [F_frames_compare] at hF
 refine SC.of (N := 16) Tryz.func127 rfl rfl rfl fun w => ?_
 refine JC.seq ?_
 refine JC.region (by rfl) ?_
 intro hQ
 refine JL.box (cs := [.int .i64 a.Num, .int .i64 a.Den]) rfl .none rfl ?_
 intro b1
 refine JL.box (cs := [.int .i64 b.Num, .int .i64 b.Den]) rfl .none rfl ?_
 intro b2
 refine JL.assign .none rfl ?_
 refine JL.done hQ ?_
 refine JQ.go ?_
 refine JC.seq ?_
 refine JC.region (by rfl) ?_
 intro hQ
 refine JL.fieldAddr fo_24_0 rfl .none rfl ?_
 refine JL.loadOwn 1 az_3 rfl rfl rfl .none rfl ?_
 refine JL.fieldAddr fo_24_1 rfl .none rfl ?_
 refine JL.loadOwn 0 az_3 rfl rfl rfl .none rfl ?_
 refine JL.bin rfl rfl rfl .none rfl ?_
 refine JL.fieldAddr fo_24_0 rfl .none rfl ?_
 refine JL.loadOwn 0 az_3 rfl rfl rfl .none rfl ?_
 refine JL.fieldAddr fo_24_1 rfl .none rfl ?_
 refine JL.loadOwn 1 az_3 rfl rfl rfl .none rfl ?_
 refine JL.bin rfl rfl rfl .none rfl ?_
 obtain ⟨y3, hy3, hF⟩ := bind_some hF
 refine JL.callS (c_cmp_Compare_int_ n H (w64 (a.Num * b.Den)) (w64 (b.Num * a.Den)) y3 hy3) rfl en_132 .none rfl ?_
 refine JL.assign .none rfl ?_
 refine JL.done hQ ?_
 refine JQ.go ?_
 refine JC.fresh (fun f => f 4 = .int .i64 y3) rfl ?_
 rintro f hf4
 refine (JC.norm (i := 4) hf4 ?_)
 refine JC.ret ?_
 obtain rfl := Option.some.inj hF
 exact JQ.outS rfl (.tmp .nil) rfl
-- 128 ferrule/frames.reduced
def F_frames_reduced_s1 (n : Nat)  : Int × Int → Option ((Int × Int) ⊕ Int)
 | (a_38, b_39) => if (b_39 != 0) = true then ((nz b_39).bind fun _ => some (Sum.inl (b_39, (a_38.tmod b_39)))) else (some (Sum.inr a_38))
def F_frames_reduced (n : Nat) (f_ : Frac) : Option Frac :=
 (loopO n (F_frames_reduced_s1 n) ((max f_.Num (w64 (-f_.Num))), f_.Den)).bind fun a_23 => (nz a_23).bind fun _ => (nz a_23).bind fun _ => some (Frac.mk (w64 (f_.Num.tdiv a_23)) (w64 (f_.Den.tdiv a_23)))
set_option maxRecDepth 100000 in
set_option maxHeartbeats 40000000 in
theorem c_frames_reduced (n : Nat) (H : Hp) (f_ : Frac) (y : Frac) (hF : F_frames_reduced n f_ = some y) : SC Tryz.prog 128 [.agg [.int .i64 f_.Num, .int .i64 f_.Den].toArray] (.agg [.int .i64 y.Num, .int .i64 y.Den].toArray) H := by
 rw [F_frames_reduced] at hF
 refine SC.of (N := 28) Tryz.func128 rfl rfl rfl fun w => ?_
 refine JC.seq ?_
 refine JC.region (by rfl) ?_
 intro hQ
 refine JL.box (cs := [.int .i64 f_.Num, .int .i64 f_.Den]) rfl .none rfl ?_
 intro b1
 refine JL.alloc ze_24 .none rfl ?_
 intro b2
 refine JL.done hQ ?_
 refine JQ.go ?_
 refine JC.seq ?_
 refine JC.draw (by rfl) mo_ (by kernel_rfl) ?_
 intro hQ
 refine JL.fieldAddr fo_24_0 rfl .none rfl ?_
 refine JL.loadOwn 1 az_3 rfl rfl rfl .none rfl ?_
 refine JL.fieldAddr fo_24_0 rfl .none rfl ?_
 refine JL.loadOwn 1 az_3 rfl rfl rfl .none rfl ?_
 refine JL.neg rfl .none rfl ?_
 refine JL.max rfl rfl .none rfl ?_
 refine JL.fieldAddr fo_24_1 rfl .none rfl ?_
 refine JL.loadOwn 1 az_3 rfl rfl rfl .none rfl ?_
 refine JL.assign .none rfl ?_
 refine JL.assign .none rfl ?_
 refine JL.doneQ hQ ?_
 refine JQ.go ?_
 refine JC.seq ?_
 obtain ⟨r25, hlr25, hKr25⟩ := bind_some hF
 refine JC.join (fun (a_23 : Int) H24 f bs gs => f 1 = .pointer (some ⟨b1, 0, none⟩) ∧ f 2 = .pointer (some ⟨b2, 0, none⟩) ∧ f 3 = .int .i64 a_23 ∧ bs = [(b2, .cells [.int .i64 0, .int .i64 0].toArray 24), (b1, .cells [.int .i64 f_.Num, .int .i64 f_.Den].toArray 24)] ∧ gs = [] ∧ HSub H H24 ∧ a_23 = r25) ?_ ?_
 ·skip
  refine JC.block ?_
  refine JC.loop hlr25 (fun (x : Int × Int) H40 f bs gs => match x with | (a_38, b_39) => f 1 = .pointer (some ⟨b1, 0, none⟩) ∧ f 2 = .pointer (some ⟨b2, 0, none⟩) ∧ f 3 = .int .i64 a_38 ∧ f 4 = .int .i64 b_39 ∧ bs = [(b2, .cells [.int .i64 0, .int .i64 0].toArray 24), (b1, .cells [.int .i64 f_.Num, .int .i64 f_.Den].toArray 24)] ∧ gs = [] ∧ HSub H H40) ⟨rfl, rfl, rfl, rfl, rfl, rfl, (HSub.refl _)⟩ ?_
  rintro ⟨a_38, b_39⟩ x42 H40 f bs gs ⟨hf1, hf2, hf3, hf4, rfl, rfl, hs40⟩ hF hr41
  rw [F_frames_reduced_s1] at hF
  refine (JC.norm (i := 1) hf1 (JC.norm (i := 2) hf2 (JC.norm (i := 3) hf3 (JC.norm (i := 4) hf4 ?_))))
  refine JC.seq ?_
  refine JC.seq ?_
  refine JC.region (by rfl) ?_
  intro hQ
  refine JL.move .none rfl ?_
  refine JL.bin rfl rfl rfl .none rfl ?_
  refine JL.done hQ ?_
  refine JQ.go ?_
  rcases ite_some hF with ⟨hc43, hF⟩ | ⟨hc43, hF⟩
  ·refine JC.cond_t (b := (b_39 != 0)) rfl hc43 ?_
   refine JC.skip ?_
   refine JQ.go ?_
   refine JC.block ?_
   refine JC.draw (by rfl) mo_ (by kernel_rfl) ?_
   intro hQ
   refine JL.move .none rfl ?_
   refine JL.move .none rfl ?_
   refine JL.move .none rfl ?_
   obtain ⟨u45, hu45, hF⟩ := bind_some hF
   refine JL.div rfl rfl (nz_some hu45) rfl .none rfl ?_
   refine JL.assign .none rfl ?_
   refine JL.assign .none rfl ?_
   refine JL.doneQ hQ ?_
   refine JQ.normal_block ?_
   obtain rfl := Option.some.inj hF
   exact JQ.next rfl ⟨rfl, rfl, rfl, rfl, rfl, rfl, hs40⟩
  ·refine JC.cond_f (b := (b_39 != 0)) rfl hc43 ?_
   refine JC.exit ?_
   refine JQ.exit_then ?_
   refine JQ.exit_then ?_
   refine JQ.exit_block ?_
   obtain rfl := Option.some.inj hF
   have ehr41 := hr41 _ rfl
   subst ehr41
   exact JQ.join a_38 ⟨rfl, rfl, rfl, rfl, rfl, hs40, rfl⟩
 ·rintro a_23 H24 f bs gs ⟨hf1, hf2, hf3, rfl, rfl, hs24, rfl⟩
  have hF := hKr25
  try dsimp only at hF
  refine (JQ.norm (i := 1) hf1 (JQ.norm (i := 2) hf2 (JQ.norm (i := 3) hf3 ?_)))
  refine JQ.go ?_
  refine JC.seq ?_
  obtain ⟨u48, hu48, hF⟩ := bind_some hF
  obtain ⟨u49, hu49, hF⟩ := bind_some hF
  refine JC.mixed 9 10 #[false, false, false, false, false, false, false, false, false, false] [(b2, .cells [.int .i64 0, .int .i64 0].toArray 24), (b1, .cells [.int .i64 f_.Num, .int .i64 f_.Den].toArray 24)] (by rfl) mo_ (by kernel_rfl) (by kernel_rfl) ?_
  intro hQ hE
  refine JA.take 0 (listed' := #[true, false, false, false, false, false, false, false, false, false]) hQ rfl (by kernel_rfl) (by kernel_rfl) (by kernel_rfl) (by kernel_rfl) (by kernel_rfl) hE (HSub.refl _) (.cons_cons _ (.cons_cons _ (List.nil_sublist _))) ?_
  refine JL.fieldAddr fo_24_0 rfl .none rfl ?_
  refine JA.cont ?_
  refine JA.take 1 (listed' := #[true, true, false, false, false, false, false, false, false, false]) hQ rfl (by kernel_rfl) (by kernel_rfl) (by kernel_rfl) (by kernel_rfl) (by kernel_rfl) hE (HSub.refl _) (.cons_cons _ (.cons_cons _ (List.nil_sublist _))) ?_
  refine JL.loadOwn 1 az_3 rfl rfl rfl .none rfl ?_
  refine JA.cont ?_
  refine JA.take 2 (listed' := #[true, true, true, false, false, false, false, false, false, false]) hQ rfl (by kernel_rfl) (by kernel_rfl) (by kernel_rfl) (by kernel_rfl) (by kernel_rfl) hE (HSub.refl _) (.cons_cons _ (.cons_cons _ (List.nil_sublist _))) ?_
  refine JL.move .none rfl ?_
  refine JA.cont ?_
  refine JA.take 3 (listed' := #[true, true, true, true, false, false, false, false, false, false]) hQ rfl (by kernel_rfl) (by kernel_rfl) (by kernel_rfl) (by kernel_rfl) (by kernel_rfl) hE (HSub.refl _) (.cons_cons _ (.cons_cons _ (List.nil_sublist _))) ?_
  refine JL.div rfl rfl (nz_some hu48) rfl .none rfl ?_
  refine JA.cont ?_
  refine JA.take 4 (listed' := #[true, true, true, true, true, false, false, false, false, false]) hQ rfl (by kernel_rfl) (by kernel_rfl) (by kernel_rfl) (by kernel_rfl) (by kernel_rfl) hE (HSub.refl _) (.cons_cons _ (.cons_cons _ (List.nil_sublist _))) ?_
  refine JL.fieldAddr fo_24_1 rfl .none rfl ?_
  refine JA.cont ?_
  refine JA.take 5 (listed' := #[true, true, true, true, true, true, false, false, false, false]) hQ rfl (by kernel_rfl) (by kernel_rfl) (by kernel_rfl) (by kernel_rfl) (by kernel_rfl) hE (HSub.refl _) (.cons_cons _ (.cons_cons _ (List.nil_sublist _))) ?_
  refine JL.loadOwn 1 az_3 rfl rfl rfl .none rfl ?_
  refine JA.cont ?_
  refine JA.take 6 (listed' := #[true, true, true, true, true, true, true, false, false, false]) hQ rfl (by kernel_rfl) (by kernel_rfl) (by kernel_rfl) (by kernel_rfl) (by kernel_rfl) hE (HSub.refl _) (.cons_cons _ (.cons_cons _ (List.nil_sublist _))) ?_
  refine JL.move .none rfl ?_
  refine JA.cont ?_
  refine JA.take 7 (listed' := #[true, true, true, true, true, true, true, true, false, false]) hQ rfl (by kernel_rfl) (by kernel_rfl) (by kernel_rfl) (by kernel_rfl) (by kernel_rfl) hE (HSub.refl _) (.cons_cons _ (.cons_cons _ (List.nil_sublist _))) ?_
  refine JL.div rfl rfl (nz_some hu49) rfl .none rfl ?_
  refine JA.cont ?_
  refine JA.take 8 (listed' := #[true, true, true, true, true, true, true, true, true, false]) hQ rfl (by kernel_rfl) (by kernel_rfl) (by kernel_rfl) (by kernel_rfl) (by kernel_rfl) hE (HSub.refl _) (.cons_cons _ (.cons_cons _ (List.nil_sublist _))) ?_
  refine JL.build (l := [.int .i64 (w64 (f_.Num.tdiv a_23)), .int .i64 (w64 (f_.Den.tdiv a_23))]) (by kernel_rfl) .none rfl ?_
  refine JA.cont ?_
  refine JA.many [9] (by kernel_rfl) (by simp) (all_one ⟨_, #[true, true, true, true, true, true, true, true, true, true], rfl, (by kernel_rfl), ?_⟩)
  refine JL.storeOwn 0 (cs := [.int .i64 (w64 (f_.Num.tdiv a_23)), .int .i64 (w64 (f_.Den.tdiv a_23))]) az_24 rfl rfl rfl (one_cons rfl (one_cons rfl one_nil)) rfl rfl .none ?_
  refine JA.sink (by kernel_rfl) ?_
  refine JA.done hQ (by kernel_rfl) ?_
  refine JQ.go ?_
  refine JC.ret ?_
  obtain rfl := Option.some.inj hF
  exact JQ.outS rfl (.cell 0 az_24 rfl rfl rfl .nil) rfl
-- 118 ferrule/frames.Cosine
def F_frames_Cosine_s1 (n : Nat) (y6 : Int) : (Int × Int × Int × Int) → frames_sides → Option ((Int × Int × Int × Int) ⊕ Unit)
 | (z_82, z_83, z_84, z_85), x17 => (F_frames_sides_cosine n x17 y6).bind fun y91 => (if (z_85 == 0) = true then (some true) else ((F_frames_compare n y91 (Frac.mk z_84 z_85)).bind fun y97 => some (decide (y97 < 0))) : Option Bool).bind fun p94 => (if p94 = true then (some (y91.Num, y91.Den)) else (some (z_84, z_85))).bind fun r102 => match r102 with | (z_99, z_100) => (if (z_83 == 0) = true then (some true) else ((F_frames_compare n y91 (Frac.mk z_82 z_83)).bind fun y108 => some (decide (0 < y108))) : Option Bool).bind fun p105 => (if p105 = true then (some (y91.Num, y91.Den)) else (some (z_82, z_83))).bind fun r113 => match r113 with | (z_110, z_111) => some (Sum.inl (z_110, z_111, z_99, z_100))
def F_frames_Cosine (n : Nat) (f_ : Frame) (section_ : Int) (r : Int) : Option (Frac × Frac × Int) :=
 (F_frames_ask n f_ section_ r).bind fun y4 => if (y4 != 0) = true then (some ((Frac.mk 0 0), (Frac.mk 0 0), y4)) else ((F_frames_distance n f_ section_ r).bind fun y6 => if (y6 == 0) = true then (some ((Frac.mk 0 0), (Frac.mk 0 0), 3)) else ((geti f_.Sections section_).bind fun y9 => (F_frames_truths n y9).bind fun y14 => (I_frames_truths_1 n y14 (F_frames_Cosine_s1 n y6) (0, 0, 0, 0)).bind fun r87 => match r87 with | .inl (z_82, z_83, z_84, z_85) => (F_frames_reduced n (Frac.mk z_84 z_85)).bind fun y118 => (F_frames_reduced n (Frac.mk z_82 z_83)).bind fun y119 => some (y118, y119, 0) | .inr _ => none))
set_option maxRecDepth 100000 in
set_option maxHeartbeats 40000000 in
theorem c_frames_Cosine (n : Nat) (H : Hp) (f_ : Frame) (f__v0 : Value) (hf__0 : SL H 7 R_Section f__v0 f_.Sections) (section_ : Int) (r : Int) (y : Frac × Frac × Int) (hF : F_frames_Cosine n f_ section_ r = some y) : SC Tryz.prog 118 [.agg [f__v0, .int .i64 f_.Low, .int .i64 f_.High, .int .i64 f_.Ease.Num, .int .i64 f_.Ease.Den, .int .i64 f_.Rod, .int .i64 f_.Case].toArray, .int .i64 section_, .int .i64 r] (.tuple [.agg [.int .i64 y.1.Num, .int .i64 y.1.Den].toArray, .agg [.int .i64 y.2.1.Num, .int .i64 y.2.1.Den].toArray, .int .i64 y.2.2].toArray) H := by
 rw [F_frames_Cosine] at hF
 refine SC.ofM (N := 64) Tryz.func118 rfl rfl rfl fun w => ?_
 refine JC.seq ?_
 refine JC.region (by rfl) ?_
 intro hQ
 refine JL.box (cs := [f__v0, .int .i64 f_.Low, .int .i64 f_.High, .int .i64 f_.Ease.Num, .int .i64 f_.Ease.Den, .int .i64 f_.Rod, .int .i64 f_.Case]) rfl .none rfl ?_
 intro b1
 refine JL.alloc ze_24 .none rfl ?_
 intro b2
 refine JL.alloc ze_24 .none rfl ?_
 intro b3
 refine JL.assign .none rfl ?_
 refine JL.done hQ ?_
 refine JQ.go ?_
 refine JC.seq ?_
 refine JC.seq ?_
 refine JC.region (by rfl) ?_
 intro hQ
 refine JL.loadOwn 2 az_26 rfl rfl rfl .none rfl ?_
 refine JL.move .none rfl ?_
 refine JL.move .none rfl ?_
 obtain ⟨y4, hy4, hF⟩ := bind_some hF
 refine JL.callS (c_frames_ask n H f_ f__v0 hf__0 section_ r y4 hy4) rfl en_123 .none rfl ?_
 refine JL.assign .none rfl ?_
 refine JL.done hQ ?_
 refine JQ.go ?_
 refine JC.seq ?_
 refine JC.region (by rfl) ?_
 intro hQ
 refine JL.move .none rfl ?_
 refine JL.bin rfl rfl rfl .none rfl ?_
 refine JL.done hQ ?_
 refine JQ.go ?_
 rcases ite_some hF with ⟨hc5, hF⟩ | ⟨hc5, hF⟩
 ·refine JC.cond_t (b := (y4 != 0)) rfl hc5 ?_
  refine JC.seq ?_
  refine JC.region (by rfl) ?_
  intro hQ
  refine JL.build (l := [.int .i64 0, .int .i64 0]) (by kernel_rfl) .none rfl ?_
  refine JL.build (l := [.int .i64 0, .int .i64 0]) (by kernel_rfl) .none rfl ?_
  refine JL.move .none rfl ?_
  refine JL.storeOwn 1 (cs := [.int .i64 0, .int .i64 0]) az_24 rfl rfl rfl (one_cons rfl (one_cons rfl one_nil)) rfl rfl .none ?_
  refine JL.storeOwn 0 (cs := [.int .i64 0, .int .i64 0]) az_24 rfl rfl rfl (one_cons rfl (one_cons rfl one_nil)) rfl rfl .none ?_
  refine JL.assign .none rfl ?_
  refine JL.done hQ ?_
  refine JQ.go ?_
  refine JC.fresh (fun f => f 6 = .pointer (some ⟨b2, 0, none⟩) ∧ f 7 = .pointer (some ⟨b3, 0, none⟩) ∧ f 8 = .int .i64 y4) ⟨rfl, rfl, rfl⟩ ?_
  rintro f ⟨hf6, hf7, hf8⟩
  refine (JC.norm (i := 6) hf6 (JC.norm (i := 7) hf7 (JC.norm (i := 8) hf8 ?_)))
  refine JC.ret ?_
  refine JQ.ret_then ?_
  obtain rfl := Option.some.inj hF
  exact JQ.outSM rfl .nil (.cell 1 az_24 rfl rfl rfl (.cell 0 az_24 rfl rfl rfl (.tmp .nil))) rfl
 ·refine JC.cond_f (b := (y4 != 0)) rfl hc5 ?_
  refine JC.skip ?_
  refine JQ.go ?_
  refine JC.fresh (fun f => f 1 = .int .i64 section_ ∧ f 2 = .int .i64 r ∧ f 3 = .pointer (some ⟨b1, 0, none⟩) ∧ f 6 = .pointer (some ⟨b2, 0, none⟩) ∧ f 7 = .pointer (some ⟨b3, 0, none⟩) ∧ f 8 = .int .i64 0) ⟨rfl, rfl, rfl, rfl, rfl, rfl⟩ ?_
  rintro f ⟨hf1, hf2, hf3, hf6, hf7, hf8⟩
  refine (JC.norm (i := 1) hf1 (JC.norm (i := 2) hf2 (JC.norm (i := 3) hf3 (JC.norm (i := 6) hf6 (JC.norm (i := 7) hf7 (JC.norm (i := 8) hf8 ?_))))))
  refine JC.seq ?_
  refine JC.region (by rfl) ?_
  intro hQ
  refine JL.loadOwn 2 az_26 rfl rfl rfl .none rfl ?_
  refine JL.move .none rfl ?_
  refine JL.move .none rfl ?_
  obtain ⟨y6, hy6, hF⟩ := bind_some hF
  refine JL.callS (c_frames_distance n H f_ f__v0 hf__0 section_ r y6 hy6) rfl en_124 .none rfl ?_
  refine JL.alloc ze_3 .none rfl ?_
  intro b7
  refine JL.storeOwn 0 (cs := [.int .i64 y6]) az_3 rfl rfl rfl (one_cons rfl one_nil) rfl rfl .none ?_
  refine JL.done hQ ?_
  refine JQ.go ?_
  refine JC.seq ?_
  refine JC.seq ?_
  refine JC.region (by rfl) ?_
  intro hQ
  refine JL.loadOwn 0 az_3 rfl rfl rfl .none rfl ?_
  refine JL.bin rfl rfl rfl .none rfl ?_
  refine JL.done hQ ?_
  refine JQ.go ?_
  rcases ite_some hF with ⟨hc8, hF⟩ | ⟨hc8, hF⟩
  ·refine JC.cond_t (b := (y6 == 0)) rfl hc8 ?_
   refine JC.seq ?_
   refine JC.region (by rfl) ?_
   intro hQ
   refine JL.build (l := [.int .i64 0, .int .i64 0]) (by kernel_rfl) .none rfl ?_
   refine JL.build (l := [.int .i64 0, .int .i64 0]) (by kernel_rfl) .none rfl ?_
   refine JL.storeOwn 2 (cs := [.int .i64 0, .int .i64 0]) az_24 rfl rfl rfl (one_cons rfl (one_cons rfl one_nil)) rfl rfl .none ?_
   refine JL.storeOwn 1 (cs := [.int .i64 0, .int .i64 0]) az_24 rfl rfl rfl (one_cons rfl (one_cons rfl one_nil)) rfl rfl .none ?_
   refine JL.assign .none rfl ?_
   refine JL.done hQ ?_
   refine JQ.go ?_
   refine JC.fresh (fun f => f 6 = .pointer (some ⟨b2, 0, none⟩) ∧ f 7 = .pointer (some ⟨b3, 0, none⟩) ∧ f 8 = .int .i64 3) ⟨rfl, rfl, rfl⟩ ?_
   rintro f ⟨hf6, hf7, hf8⟩
   refine (JC.norm (i := 6) hf6 (JC.norm (i := 7) hf7 (JC.norm (i := 8) hf8 ?_)))
   refine JC.ret ?_
   refine JQ.ret_then ?_
   obtain rfl := Option.some.inj hF
   exact JQ.outSM rfl .nil (.cell 2 az_24 rfl rfl rfl (.cell 1 az_24 rfl rfl rfl (.tmp .nil))) rfl
  ·refine JC.cond_f (b := (y6 == 0)) rfl hc8 ?_
   refine JC.skip ?_
   refine JQ.go ?_
   refine JC.seq ?_
   refine JC.seq ?_
   refine JC.region (by rfl) ?_
   intro hQ
   refine JL.fieldAddr fo_26_0 rfl .none rfl ?_
   refine JL.loadOwn 3 az_22 rfl rfl rfl .none rfl ?_
   refine JL.move .none rfl ?_
   obtain ⟨y9, hy9, hF⟩ := bind_some hF
   refine JL.indexSL (R := R_Section) sl_22 hf__0 rfl hy9 .none rfl ?_
   rintro b10 o11 cs12 hc13 - rfl
   refine JL.loadH 0 az_124 rfl hc13 rfl .none rfl ?_
   obtain ⟨y14, hy14, hF⟩ := bind_some hF
   refine JL.callH (c_frames_truths n H y9 y14 hy14) rfl en_125 .none rfl ?_
   rintro H15 vv16 hs15 ⟨y14_b0, rfl, hy14_b0⟩
   refine JL.done hQ ?_
   refine JQ.go ?_
   refine JC.fresh (fun f => f 6 = .pointer (some ⟨b2, 0, none⟩) ∧ f 7 = .pointer (some ⟨b3, 0, none⟩) ∧ f 8 = .int .i64 0 ∧ f 10 = .pointer (some ⟨b7, 0, none⟩) ∧ f 35 = .func (.func 131) #[] [.pointer (some ⟨y14_b0, 0, none⟩)].toArray) ⟨rfl, rfl, rfl, rfl, rfl⟩ ?_
   rintro f ⟨hf6, hf7, hf8, hf10, hf35⟩
   refine (JC.norm (i := 6) hf6 (JC.norm (i := 7) hf7 (JC.norm (i := 8) hf8 (JC.norm (i := 10) hf10 (JC.norm (i := 35) hf35 ?_)))))
   refine JC.block ?_
   obtain ⟨r87, hl88, hF⟩ := bind_some hF
   refine JC.mask [true, true, true, false] [] ?_
   refine JC.rangeFunc (ρ := Unit) (V := (VPlain fun (x : frames_sides) => .agg [.int .i64 x.arm, .int .i64 x.stretch].toArray)) (F := fun _ _ step s => I_frames_truths_1 n y14 step s) rfl en_131 (it_frames_truths_1 n H15 y14 y14_b0 hy14_b0) rfl hl88 (fun (z : Int × Int × Int × Int) H86 fr gs => match z with | (z_82, z_83, z_84, z_85) => fr = [(b7, .cells [.int .i64 y6].toArray 3), (b3, .cells [.int .i64 z_82, .int .i64 z_83].toArray 24), (b2, .cells [.int .i64 z_84, .int .i64 z_85].toArray 24)] ∧ gs = [] ∧ HSub H15 H86) (fun _ _ _ _ _ => False) ⟨rfl, rfl, (HSub.refl _)⟩ ?_ ?_ ?_
   ·rintro l18 ⟨z_82, z_83, z_84, z_85⟩ x17 y89 v19 own T20 H86 fr gs ⟨rfl, rfl, hs86⟩ hF ⟨rfl, rfl⟩ -
    rw [F_frames_Cosine_s1] at hF
    refine JC.region (by rfl) ?_
    intro hQ
    refine JL.alloc ze_173 .none rfl ?_
    intro b90
    refine JL.storeOwn 0 (cs := [.int .i64 x17.arm, .int .i64 x17.stretch]) az_173 rfl rfl rfl (one_cons rfl (one_cons rfl one_nil)) rfl rfl .none ?_
    refine JL.done hQ ?_
    refine JQ.assigned [(b90, .cells [.int .i64 x17.arm, .int .i64 x17.stretch].toArray 173), (b7, .cells [.int .i64 y6].toArray 3), (b3, .cells [.int .i64 z_82, .int .i64 z_83].toArray 24), (b2, .cells [.int .i64 z_84, .int .i64 z_85].toArray 24)] (fun T21 => ?_)
    refine JC.block ?_
    refine JC.seq ?_
    refine JC.region (by rfl) ?_
    intro hQ
    refine JL.loadOwn 0 az_173 rfl rfl rfl .none rfl ?_
    refine JL.loadOwn 1 az_3 rfl rfl rfl .none rfl ?_
    obtain ⟨y91, hy91, hF⟩ := bind_some hF
    refine JL.callS (c_frames_sides_cosine n H86 x17 y6 y91 hy91) rfl en_126 .none rfl ?_
    refine JL.alloc ze_24 .none rfl ?_
    intro b92
    refine JL.storeOwn 0 (cs := [.int .i64 y91.Num, .int .i64 y91.Den]) az_24 rfl rfl rfl (one_cons rfl (one_cons rfl one_nil)) rfl rfl .none ?_
    refine JL.done hQ ?_
    refine JQ.go ?_
    refine JC.seq ?_
    refine JC.seq ?_
    refine JC.region (by rfl) ?_
    intro hQ
    refine JL.fieldAddr fo_24_1 rfl .none rfl ?_
    refine JL.loadOwn 4 az_3 rfl rfl rfl .none rfl ?_
    refine JL.bin rfl rfl rfl .none rfl ?_
    refine JL.move .none rfl ?_
    obtain ⟨p94, hp94, hF⟩ := bind_some hF
    refine JL.cut 5 (fun f => f 6 = .pointer (some ⟨b2, 0, none⟩) ∧ f 7 = .pointer (some ⟨b3, 0, none⟩) ∧ f 12 = .pointer (some ⟨b92, 0, none⟩) ∧ f 48 = .bool p94) ?_ ?_
    ·intro hJ95
     rcases ite_some hp94 with ⟨hc96, hF⟩ | ⟨hc96, hF⟩
     ·skip
      refine JL.skip (.bool rfl rfl rfl hc96) rfl ?_
      refine JL.skip (.bool rfl rfl rfl hc96) rfl ?_
      refine JL.skip (.bool rfl rfl rfl hc96) rfl ?_
      refine JL.skip (.bool rfl rfl rfl hc96) rfl ?_
      refine JL.pick_t (b := (z_85 == 0)) rfl hc96 .none rfl ?_
      obtain rfl := Option.some.inj hF
      exact hJ95 _ ⟨rfl, rfl, rfl, rfl⟩
     ·skip
      refine JL.loadOwn 0 az_24 rfl rfl rfl (.some rfl rfl rfl hc96) rfl ?_
      refine JL.loadOwn 4 az_24 rfl rfl rfl (.some rfl rfl rfl hc96) rfl ?_
      obtain ⟨y97, hy97, hF⟩ := bind_some hF
      refine JL.callS (c_frames_compare n H86 y91 (Frac.mk z_84 z_85) y97 hy97) rfl en_127 (.some rfl rfl rfl hc96) rfl ?_
      refine JL.bin rfl rfl rfl (.some rfl rfl rfl hc96) rfl ?_
      refine JL.pick_f (b := (z_85 == 0)) rfl hc96 .none rfl ?_
      obtain rfl := Option.some.inj hF
      exact hJ95 _ ⟨rfl, rfl, rfl, rfl⟩
    ·rintro f ⟨hf6, hf7, hf12, hf48⟩
     refine (JL.norm (i := 6) hf6 (JL.norm (i := 7) hf7 (JL.norm (i := 12) hf12 (JL.norm (i := 48) hf48 ?_))))
     refine JL.done hQ ?_
     refine JQ.go ?_
     obtain ⟨r102, hlr102, hKr102⟩ := bind_some hF
     refine JC.join (fun (x : Int × Int) H101 f bs gs => match x with | (z_99, z_100) => f 7 = .pointer (some ⟨b3, 0, none⟩) ∧ f 12 = .pointer (some ⟨b92, 0, none⟩) ∧ bs = ((b92, .cells [.int .i64 y91.Num, .int .i64 y91.Den].toArray 24) :: (b7, .cells [.int .i64 y6].toArray 3) :: (b3, .cells [.int .i64 z_82, .int .i64 z_83].toArray 24) :: (b2, .cells [.int .i64 z_99, .int .i64 z_100].toArray 24) :: T21) ∧ gs = [] ∧ HSub H86 H101 ∧ (z_99, z_100) = r102) ?_ ?_
     ·have hF := hlr102
      rcases ite_some hF with ⟨hc103, hF⟩ | ⟨hc103, hF⟩
      ·refine JC.cond_t (b := p94) rfl hc103 ?_
       refine JC.region (by rfl) ?_
       intro hQ
       refine JL.loadOwn 0 az_24 rfl rfl rfl .none rfl ?_
       refine JL.storeOwn 4 (cs := [.int .i64 y91.Num, .int .i64 y91.Den]) az_24 rfl rfl rfl (one_cons rfl (one_cons rfl one_nil)) rfl rfl .none ?_
       refine JL.done hQ ?_
       obtain rfl := Option.some.inj hF
       refine JQ.mask [true, false, true, true, true] [] ?_
       exact JQ.join (y91.Num, y91.Den) ⟨rfl, rfl, rfl, rfl, (HSub.refl _), rfl⟩
      ·refine JC.cond_f (b := p94) rfl hc103 ?_
       refine JC.skip ?_
       obtain rfl := Option.some.inj hF
       refine JQ.mask [true, false, true, true, true] [] ?_
       exact JQ.join (z_84, z_85) ⟨rfl, rfl, rfl, rfl, (HSub.refl _), rfl⟩
     ·rintro ⟨z_99, z_100⟩ H101 f bs gs ⟨hf7, hf12, rfl, rfl, hs101, rfl⟩
      have hF := hKr102
      try dsimp only at hF
      refine (JQ.norm (i := 7) hf7 (JQ.norm (i := 12) hf12 ?_))
      refine JQ.go ?_
      refine JC.seq ?_
      refine JC.region (by rfl) ?_
      intro hQ
      refine JL.fieldAddr fo_24_1 rfl .none rfl ?_
      refine JL.loadOwn 2 az_3 rfl rfl rfl .none rfl ?_
      refine JL.bin rfl rfl rfl .none rfl ?_
      refine JL.move .none rfl ?_
      obtain ⟨p105, hp105, hF⟩ := bind_some hF
      refine JL.cut 5 (fun f => f 7 = .pointer (some ⟨b3, 0, none⟩) ∧ f 12 = .pointer (some ⟨b92, 0, none⟩) ∧ f 58 = .bool p105) ?_ ?_
      ·intro hJ106
       rcases ite_some hp105 with ⟨hc107, hF⟩ | ⟨hc107, hF⟩
       ·skip
        refine JL.skip (.bool rfl rfl rfl hc107) rfl ?_
        refine JL.skip (.bool rfl rfl rfl hc107) rfl ?_
        refine JL.skip (.bool rfl rfl rfl hc107) rfl ?_
        refine JL.skip (.bool rfl rfl rfl hc107) rfl ?_
        refine JL.pick_t (b := (z_83 == 0)) rfl hc107 .none rfl ?_
        obtain rfl := Option.some.inj hF
        exact hJ106 _ ⟨rfl, rfl, rfl⟩
       ·skip
        refine JL.loadOwn 0 az_24 rfl rfl rfl (.some rfl rfl rfl hc107) rfl ?_
        refine JL.loadOwn 2 az_24 rfl rfl rfl (.some rfl rfl rfl hc107) rfl ?_
        obtain ⟨y108, hy108, hF⟩ := bind_some hF
        refine JL.callS (c_frames_compare n H101 y91 (Frac.mk z_82 z_83) y108 hy108) rfl en_127 (.some rfl rfl rfl hc107) rfl ?_
        refine JL.bin rfl rfl rfl (.some rfl rfl rfl hc107) rfl ?_
        refine JL.pick_f (b := (z_83 == 0)) rfl hc107 .none rfl ?_
        obtain rfl := Option.some.inj hF
        exact hJ106 _ ⟨rfl, rfl, rfl⟩
      ·rintro f ⟨hf7, hf12, hf58⟩
       refine (JL.norm (i := 7) hf7 (JL.norm (i := 12) hf12 (JL.norm (i := 58) hf58 ?_)))
       refine JL.done hQ ?_
       refine JQ.go ?_
       obtain ⟨r113, hlr113, hKr113⟩ := bind_some hF
       refine JC.join (fun (x : Int × Int) H112 f bs gs => match x with | (z_110, z_111) => bs = ((b7, .cells [.int .i64 y6].toArray 3) :: (b3, .cells [.int .i64 z_110, .int .i64 z_111].toArray 24) :: (b2, .cells [.int .i64 z_99, .int .i64 z_100].toArray 24) :: T21) ∧ gs = [] ∧ HSub H101 H112 ∧ (z_110, z_111) = r113) ?_ ?_
       ·have hF := hlr113
        rcases ite_some hF with ⟨hc114, hF⟩ | ⟨hc114, hF⟩
        ·refine JC.cond_t (b := p105) rfl hc114 ?_
         refine JC.region (by rfl) ?_
         intro hQ
         refine JL.loadOwn 0 az_24 rfl rfl rfl .none rfl ?_
         refine JL.storeOwn 2 (cs := [.int .i64 y91.Num, .int .i64 y91.Den]) az_24 rfl rfl rfl (one_cons rfl (one_cons rfl one_nil)) rfl rfl .none ?_
         refine JL.done hQ ?_
         obtain rfl := Option.some.inj hF
         refine JQ.mask [false, true, true, true] [] ?_
         exact JQ.join (y91.Num, y91.Den) ⟨rfl, rfl, (HSub.refl _), rfl⟩
        ·refine JC.cond_f (b := p105) rfl hc114 ?_
         refine JC.skip ?_
         obtain rfl := Option.some.inj hF
         refine JQ.mask [false, true, true, true] [] ?_
         exact JQ.join (z_82, z_83) ⟨rfl, rfl, (HSub.refl _), rfl⟩
       ·rintro ⟨z_110, z_111⟩ H112 f bs gs ⟨rfl, rfl, hs112, rfl⟩
        have hF := hKr113
        try dsimp only at hF
        refine JQ.normal_block ?_
        obtain rfl := Option.some.inj hF
        refine JQ.round rfl [(b7, .cells [.int .i64 y6].toArray 3), (b3, .cells [.int .i64 z_110, .int .i64 z_111].toArray 24), (b2, .cells [.int .i64 z_99, .int .i64 z_100].toArray 24)] (HSub.trans hs101 hs112) ?_
        exact ⟨rfl, rfl, (HSub.trans hs86 (HSub.trans hs101 hs112))⟩
   ·rintro D115 ⟨z_82, z_83, z_84, z_85⟩ H86 fr gs rfl ⟨rfl, rfl, hs86⟩ -
    try dsimp only at hF
    refine JQ.normal_block ?_
    refine JQ.go ?_
    refine JC.seq ?_
    obtain ⟨y118, hy118, hF⟩ := bind_some hF
    obtain ⟨y119, hy119, hF⟩ := bind_some hF
    refine JC.mixed 4 7 #[false, false, false, false, false, false, false] [(b7, .cells [.int .i64 y6].toArray 3), (b3, .cells [.int .i64 z_82, .int .i64 z_83].toArray 24), (b2, .cells [.int .i64 z_84, .int .i64 z_85].toArray 24), (D115, .deferred (some []))] (by rfl) mo_ (by kernel_rfl) (by kernel_rfl) ?_
    intro hQ hE
    refine JA.cut 4 #[true, true, true, false, false, false, false] (fun H120 f bs gs => f 6 = .pointer (some ⟨b2, 0, none⟩) ∧ f 7 = .pointer (some ⟨b3, 0, none⟩) ∧ f 8 = .int .i64 0 ∧ f 61 = .agg [.int .i64 y118.Num, .int .i64 y118.Den].toArray ∧ f 62 = .agg [.int .i64 z_82, .int .i64 z_83].toArray ∧ bs = [(b7, .cells [.int .i64 y6].toArray 3), (b3, .cells [.int .i64 z_82, .int .i64 z_83].toArray 24), (b2, .cells [.int .i64 z_84, .int .i64 z_85].toArray 24), (D115, .deferred (some []))] ∧ gs = [] ∧ HSub H86 H120) ?_ ?_
    ·rintro H120 f bs gs ⟨hf6, hf7, hf8, hf61, hf62, rfl, rfl, hs120⟩
     refine (JA.norm (i := 6) hf6 (JA.norm (i := 7) hf7 (JA.norm (i := 8) hf8 (JA.norm (i := 61) hf61 (JA.norm (i := 62) hf62 ?_)))))
     refine JA.many [3] (by kernel_rfl) (by simp) (all_one ⟨_, #[true, true, true, true, false, false, false], rfl, (by kernel_rfl), ?_⟩)
     refine JL.callS (c_frames_reduced n H120 (Frac.mk z_82 z_83) y119 hy119) rfl en_128 .none rfl ?_
     refine JA.after hE hs120 (.cons_cons _ (.cons_cons _ (.cons_cons _ (.cons_cons _ (List.nil_sublist _))))) ?_
     refine JA.many [4] (by kernel_rfl) (by simp) (all_one ⟨_, #[true, true, true, true, true, false, false], rfl, (by kernel_rfl), ?_⟩)
     refine JL.storeOwn 2 (cs := [.int .i64 y118.Num, .int .i64 y118.Den]) az_24 rfl rfl rfl (one_cons rfl (one_cons rfl one_nil)) rfl rfl .none ?_
     refine JA.sink (by kernel_rfl) ?_
     refine JA.many [5] (by kernel_rfl) (by simp) (all_one ⟨_, #[true, true, true, true, true, true, false], rfl, (by kernel_rfl), ?_⟩)
     refine JL.storeOwn 1 (cs := [.int .i64 y119.Num, .int .i64 y119.Den]) az_24 rfl rfl rfl (one_cons rfl (one_cons rfl one_nil)) rfl rfl .none ?_
     refine JA.sink (by kernel_rfl) ?_
     refine JA.many [6] (by kernel_rfl) (by simp) (all_one ⟨_, #[true, true, true, true, true, true, true], rfl, (by kernel_rfl), ?_⟩)
     refine JL.assign .none rfl ?_
     refine JA.sink (by kernel_rfl) ?_
     refine JA.done hQ (by kernel_rfl) ?_
     refine JQ.go ?_
     refine JC.ret ?_
     obtain rfl := Option.some.inj hF
     exact JQ.outSM rfl (.cons 3 rfl .nil) (.cell 2 az_24 rfl rfl rfl (.cell 1 az_24 rfl rfl rfl (.tmp .nil))) rfl
    intro nd119_0
    refine JA.take 0 (listed' := #[true, false, false, false, false, false, false]) hQ rfl (by kernel_rfl) (by kernel_rfl) (by kernel_rfl) (by kernel_rfl) (by kernel_rfl) hE (HSub.refl _) (.cons_cons _ (.cons_cons _ (.cons_cons _ (.cons_cons _ (List.nil_sublist _))))) ?_
    refine JL.loadOwn 2 az_24 rfl rfl rfl .none rfl ?_
    refine JA.cont ?_
    refine JA.many [1, 2] (by kernel_rfl) (by simp) (all_cons ⟨_, #[true, true, false, false, false, false, false], rfl, (by kernel_rfl), ?_⟩ (all_one ⟨_, #[true, false, true, false, false, false, false], rfl, (by kernel_rfl), ?_⟩))
    ·skip
     refine JL.callS (c_frames_reduced n H86 (Frac.mk z_84 z_85) y118 hy118) rfl en_128 .none rfl ?_
     refine JA.after hE (HSub.refl _) (.cons_cons _ (.cons_cons _ (.cons_cons _ (.cons_cons _ (List.nil_sublist _))))) ?_
     refine JA.many [2] (by kernel_rfl) (by simp) (all_one ⟨_, #[true, true, true, false, false, false, false], rfl, (by kernel_rfl), ?_⟩)
     refine JL.loadOwn 1 az_24 rfl rfl rfl .none rfl ?_
     refine JA.after hE (HSub.refl _) (.cons_cons _ (.cons_cons _ (.cons_cons _ (.cons_cons _ (List.nil_sublist _))))) ?_
     exact nd119_0 _ _ _ _ ⟨rfl, rfl, rfl, rfl, rfl, rfl, rfl, (HSub.refl _)⟩
    ·skip
     refine JL.loadOwn 1 az_24 rfl rfl rfl .none rfl ?_
     refine JA.after hE (HSub.refl _) (.cons_cons _ (.cons_cons _ (.cons_cons _ (.cons_cons _ (List.nil_sublist _))))) ?_
     refine JA.many [1] (by kernel_rfl) (by simp) (all_one ⟨_, #[true, true, true, false, false, false, false], rfl, (by kernel_rfl), ?_⟩)
     refine JL.callS (c_frames_reduced n H86 (Frac.mk z_84 z_85) y118 hy118) rfl en_128 .none rfl ?_
     refine JA.after hE (HSub.refl _) (.cons_cons _ (.cons_cons _ (.cons_cons _ (.cons_cons _ (List.nil_sublist _))))) ?_
     exact nd119_0 _ _ _ _ ⟨rfl, rfl, rfl, rfl, rfl, rfl, rfl, (HSub.refl _)⟩
   ·rintro _ _ _ _ _ _ _ h; exact h.elim
end Go.Proofs.YtcipdblhopffbaaGreat
end
